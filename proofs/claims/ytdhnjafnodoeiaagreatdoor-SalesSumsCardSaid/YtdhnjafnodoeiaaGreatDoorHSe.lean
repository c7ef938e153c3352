/- For every book, kind, number and index the function SalesSums answers true, whatever other goroutines do, and leaves its arguments as they were. Conditions: those of the given row. -/
import Derived.Test.YtdhnjafnodoeiaaGreatDoorHSd
import Derived.AtR
import Derived.Calls
import Derived.Conc.AtomicLaws2
import Derived.Conc.Beside
import Derived.Conc.ClockLaws
import Derived.Conc.CompanyDraw
import Derived.Conc.CompanyMem
import Derived.Conc.HoldsTime
import Derived.Conc.LockJoin
import Derived.Conc.MarkLaws
import Derived.Conc.MuSpec
import Derived.Conc.MuStops
import Derived.Conc.Own
import Derived.Conc.Starve
import Derived.Conc.WgArith
import Derived.Great.BuildSlice
import Derived.Great.FillDense
import Derived.Laws.OwnMore
import Derived.Laws.Sem
import Derived.LoopNIn
import Derived.MapKept
import Derived.Maps.AppendAt
import Derived.OwnWalkIn
import Derived.RangeFuncBound
import Derived.RangeFuncCalls
import Derived.RangeFuncLeaves
import Derived.RangeFuncNested
import Derived.RangeFuncRecord
import Derived.Shelf.Abstract
import Derived.TacticsInMore
import Derived.WalkKit
namespace Go.Ab.J
open Go Go.Proofs Go.Kp
section
variable{G:zbf}
attribute [local irreducible] AOp AW ADr AFn ze1 AFt AOpJ
set_option maxRecDepth 20000
set_option maxHeartbeats 8000000
theorem zyt{P G:Prop}(n:P)(h:Go.Kp.Wr P→G:=by(intro n;first|((with_reducible apply kC);first|exact gB ⟨_,zv8 _ _ _,.mk rfl n.p⟩|exact gK n.p|exact gS n.p)|exact⟨_,zv8 _ _ _,n.p⟩|exact sk n.p|exact ap n.p)):G:=h ⟨n⟩
theorem zvc(i many:Int)(hm:0≤many∧many≤100000):AFn (cx G) 61 [vi i,vi many] (vi (if decide (0≤i∧i≤many-1) then 0 else 6)):=by
 refine zag Tryz.func61 rfl Tryz.ntmps61 rfl rfl rfl ?_ rfl;refine zab fun Q hQ=>?_;by_cases h:0≤i∧i≤many-1
 ·have hd:decide (0≤i∧i≤many-1)=true:=by simpa using h
  (repeat' (first|refine sx ?_|refine aS fun P9 h9=>?_|refine aB fun P9 _ _ _ _=>?_|refine zyt ?_|(refine s2 ?_ ?_<;>intro h7<;>try omega)));refine fe ?_;simp [h]
 ·have hd:decide (0≤i∧i≤many-1)=false:=by simpa using h
  (repeat' (first|refine sx ?_|refine aS fun P9 h9=>?_|refine aB fun P9 _ _ _ _=>?_|refine zyt ?_|(refine s2 ?_ ?_<;>intro h7<;>try omega)));refine fe ?_;rw [if_neg (by rw [hd];simp)]
def zy9(some many:Int):Int:=if some=many then 1 else if some=0 then 2 else 0
theorem z7j(n m:Int):AFn (cx G) 63 [vi n,vi m] (vi (zy9 n m)):=by
 refine zag Tryz.func63 rfl Tryz.ntmps63 rfl rfl rfl ?_ rfl;refine zab fun Q hQ=>?_;(repeat' (first|refine sx ?_|refine aS fun P9 h9=>?_|refine aB fun P9 _ _ _ _=>?_|refine zyt ?_|(refine s2 ?_ ?_<;>intro h7<;>try omega)));all_goals refine fe ?_
 all_goals refine congrArg vi ?_
 all_goals unfold zy9
 all_goals grind
theorem z75(l:List Int)(x:Int)(hl:l.length≤100000):AFn (cx G) 26 [.sl 1 (il l),vi x] (vb (decide (x∈l))):=by
 refine zag Tryz.func26 rfl Tryz.ntmps26 rfl rfl rfl ?_ rfl;refine zab fun Q hQ=>?_;(repeat' (first|refine sx ?_|refine aS fun P9 h9=>?_|refine aB fun P9 _ _ _ _=>?_|refine zyt ?_|(refine s2 ?_ ?_<;>intro h7<;>try omega)));refine zbe l.length (fun i=>∀j,j<i→l.getD j 0≠x) (fun i=>[(2*0,.av (.sl 1 (il l))),(2*1,.av (vi x)),(2*5,.av (vi i))]) (fun j hj=>by omega) ?_ ?_
 ·exact si
 ·intro i hi hP;rcases kae i l.length with hlt|hge
  ·obtain⟨z,hz⟩:∃z,l[i]?=some z:=⟨_,kaa hlt⟩;have hzr:(il l)[i]?=some [vi z]:=zcm hz;have hzl:i<(il l).length:=by simp;omega
   have hgz:l.getD i 0=z:=by simp [hz]
   have hd:decide ((i:Int)<((il l).length:Int))=true:=by simp;omega
   by_cases hx:z=x
   ·have hdx:decide (z=x)=true:=by simpa using hx
    have hF:decide (x∈l)=true:=by subst hx;simpa using kag hz
    (repeat' (first|refine sx ?_|refine aS fun P9 h9=>?_|refine aB fun P9 _ _ _ _=>?_|refine zyt ?_|(refine s2 ?_ ?_<;>intro h7<;>try omega)));refine fe ?_;rw [hF]
   ·have hdx:decide (z=x)=false:=by simpa using hx
    (repeat' (first|refine sx ?_|refine aS fun P9 h9=>?_|refine aB fun P9 _ _ _ _=>?_|refine zyt ?_|(refine s2 ?_ ?_<;>intro h7<;>try omega)));refine⟨hlt,fun j hj=>?_,?_⟩
    ·rcases kae j i with h|h
     ·exact hP j h
     ·have:j=i:=by omega
      subst this;rw [hgz];exact hx
    ·exact si
  ·have he:i=l.length:=by omega
   subst he;have hd:decide ((l.length:Int)<((il l).length:Int))=false:=by simp
   have hF:decide (x∈l)=false:=decide_eq_false fun hm=>by obtain⟨j,hj⟩:=kba hm;exact hP j (kab.1 hj).1 (by simp [hj])
   (repeat' (first|refine sx ?_|refine aS fun P9 h9=>?_|refine aB fun P9 _ _ _ _=>?_|refine zyt ?_|(refine s2 ?_ ?_<;>intro h7<;>try omega)));refine fe ?_;rw [hF]
theorem zwy(p q:List Int)(_hp:p.length≤100000)(hq:q.length≤100000):AFn (cx G) 154 [.sl 1 (il p),.sl 1 (il q)] (vb (zie p q)):=by
 refine zag Tryz.func154 rfl Tryz.ntmps154 rfl rfl rfl ?_ rfl;refine zab fun Q hQ=>?_;(repeat' (first|refine sx ?_|refine aS fun P9 h9=>?_|refine aB fun P9 _ _ _ _=>?_|refine zyt ?_|(refine s2 ?_ ?_<;>intro h7<;>try omega)));refine zbe (min p.length q.length) (fun i=>zie p q=zie (p.drop i) (q.drop i)) (fun i=>[(2*0,.av (.sl 1 (il p))),(2*1,.av (.sl 1 (il q))),(2*5,.av (vi i))]) rfl ?_ ?_
 ·exact si
 ·intro i hi hP;have hlp:(il p).length=p.length:=by simp
  have hlq:(il q).length=q.length:=by simp
  rcases kae i (min p.length q.length) with hlt|hge
  ·obtain⟨x,hx⟩:∃x,p[i]?=some x:=⟨_,kaa (by omega)⟩;obtain⟨y,hy⟩:∃y,q[i]?=some y:=⟨_,kaa (by omega)⟩;have hxr:(il p)[i]?=some [vi x]:=zcm hx;have hyr:(il q)[i]?=some [vi y]:=zcm hy;have hxl:i<(il p).length:=by rw [hlp];omega
   have hyl:i<(il q).length:=by rw [hlq];omega
   have hd1:decide ((i:Int)<((il p).length:Int))=true:=decide_eq_true (by rw [hlp];omega);have hd2:decide ((i:Int)<((il q).length:Int))=true:=decide_eq_true (by rw [hlq];omega);have ep:p.drop i=x::p.drop (i+1):=by rw [←List.getElem_cons_drop (h:=by omega)];congr 1;exact((kab.1 hx).2)
   have eq:q.drop i=y::q.drop (i+1):=by rw [←List.getElem_cons_drop (h:=by omega)];congr 1;exact((kab.1 hy).2)
   rw [ep,eq] at hP;have hi1:vi ((i+1:Nat):Int)=vi ((i:Int)+1):=by simp
   by_cases hxy:x=y
   ·have hdx:decide (x=y)=true:=by simpa using hxy
    (repeat' (first|refine sx ?_|refine aS fun P9 h9=>?_|refine aB fun P9 _ _ _ _=>?_|refine zyt ?_|(refine s2 ?_ ?_<;>intro h7<;>try omega)));refine⟨hlt,by rw [hP];simp [zie,hxy],?_⟩;exact si
   ·have hdx:decide (x=y)=false:=by simpa using hxy
    have hF:zie p q=decide (x<y):=by rw [hP];simp [zie,hxy]
    rw [hF] at hQ;(repeat' (first|refine sx ?_|refine aS fun P9 h9=>?_|refine aB fun P9 _ _ _ _=>?_|refine zyt ?_|(refine s2 ?_ ?_<;>intro h7<;>try omega)));refine fe ?_;rfl
  ·have hF:zie p q=decide (((il p).length:Int)<((il q).length:Int)):=by
     rw [hP,hlp,hlq];rcases Nat.le_total p.length q.length with h|h
     ·have e1:p.drop i=[]:=ka7.2 (by omega);rw [e1];cases e2:q.drop i with
      | nil=>have:=ka7.1 e2;simp [zie];omega
      | cons y ys =>
        have:i<q.length:=by
         rcases kae i q.length with h2|h2
         ·exact h2
         ·rw [ka7.2 h2] at e2;cases e2
        simp [zie];omega
     ·have e1:q.drop i=[]:=ka7.2 (by omega);rw [e1];cases p.drop i<;>simp [zie]<;>omega
   rw [hF] at hQ;rcases kae i p.length with h1|h1
   ·have hd1:decide ((i:Int)<((il p).length:Int))=true:=decide_eq_true (by rw [hlp];omega);have hd2:decide ((i:Int)<((il q).length:Int))=false:=decide_eq_false (by rw [hlq];omega);(repeat' (first|refine sx ?_|refine aS fun P9 h9=>?_|refine aB fun P9 _ _ _ _=>?_|refine zyt ?_|(refine s2 ?_ ?_<;>intro h7<;>try omega)));refine fe ?_;rfl
   ·have hd1:decide ((i:Int)<((il p).length:Int))=false:=decide_eq_false (by rw [hlp];omega);(repeat' (first|refine sx ?_|refine aS fun P9 h9=>?_|refine aB fun P9 _ _ _ _=>?_|refine zyt ?_|(refine s2 ?_ ?_<;>intro h7<;>try omega)));refine fe ?_;rfl
theorem crk1{P G:Prop}(n:P)(h:Go.Kp.Wr P→G:=by(intro n;first|((with_reducible apply kC);first|exact gB ⟨_,zwy _ _ hp hq,.mk rfl n.p⟩|exact gK n.p|exact gS n.p)|exact⟨_,zwy _ _ hp hq,n.p⟩|exact sk n.p|exact ap n.p)):G:=h ⟨n⟩
theorem zq8(p q:List Int)(hp:p.length≤100000)(hq:q.length≤100000):AFn (cx G) 86 [.sl 1 (il p),.sl 1 (il q)] (vb (zh3 p q)):=by
 refine zag Tryz.func86 rfl Tryz.ntmps86 rfl rfl rfl ?_ rfl;refine zab fun Q hQ=>?_;have hlp:(il p).length=p.length:=by simp
 have hlq:(il q).length=q.length:=by simp
 by_cases h1:p.length<q.length
 ·have hd1:decide (((il p).length:Int)<((il q).length:Int))=true:=decide_eq_true (by rw [hlp,hlq];omega);(repeat' (first|refine sx ?_|refine aS fun P9 h9=>?_|refine aB fun P9 _ _ _ _=>?_|refine crk1 ?_|(refine s2 ?_ ?_<;>intro h7<;>try omega)));refine fe ?_;simp [zh3,h1]
 ·have hd1:decide (((il p).length:Int)<((il q).length:Int))=false:=decide_eq_false (by rw [hlp,hlq];omega);by_cases h2:p.length=q.length
  ·have hd2:decide (((il p).length:Int)=((il q).length:Int))=true:=decide_eq_true (by rw [hlp,hlq];omega);(repeat' (first|refine sx ?_|refine aS fun P9 h9=>?_|refine aB fun P9 _ _ _ _=>?_|refine crk1 ?_|(refine s2 ?_ ?_<;>intro h7<;>try omega)));refine fe ?_;simp [zh3,h2]
  ·have hd2:decide (((il p).length:Int)=((il q).length:Int))=false:=decide_eq_false (by rw [hlp,hlq];omega);(repeat' (first|refine sx ?_|refine aS fun P9 h9=>?_|refine aB fun P9 _ _ _ _=>?_|refine crk1 ?_|(refine s2 ?_ ?_<;>intro h7<;>try omega)));refine fe ?_;simp [zh3,h1,h2]
def zfu(f:Nat→Int):Nat→Int×Int
 | 0=>(f 0,f 0)
 | n+1=>(min (zfu f n).1 (f (n+1)),max (zfu f n).2 (f (n+1)))
abbrev rd0:zfo:=([],[])
def zzc(most:Int)(ss:List Slip)(ms:List SumR)(k a:Int)(i:Nat):Int:=zbo ss (zc7 ss ((zaj most ss ms).getD i rd0)) k.toNat a ss.length
def znn(most:Int)(ss:List Slip)(ms:List SumR)(k a:Int):(Int×Int)×Int :=
 if zcl most ss ms (zc8 k a)≠0 then ((0,0),zcl most ss ms (zc8 k a)) else (zfu (zzc most ss ms k a) ((zaj most ss ms).length-1),0)
theorem zvj(most:Int)(ss:List Slip)(ms:List SumR)(now:List Int)(k a:Int)(hk:0≤k)(hn:ss.length≤20)(hl:now.length=ss.length)(hb:zhn now):AFn (cx G) 54 [bk most ss ms,.sl 1 (il now),vi k,vi a] (vi (zbo ss now k.toNat a ss.length)):=by have:=zpg (G:=G) most ss ms now k a hk hn (by omega) hb;rwa [hl] at this
theorem crk2{P G:Prop}(n:P)(h:Go.Kp.Wr P→G:=by(intro n;first|((with_reducible apply kC);first|exact gB ⟨_,zf8 _ _,.mk rfl n.p⟩|exact gB ⟨_,zha hn hm hl,.mk rfl n.p⟩|exact gB ⟨_,zhb hn hm hl,.mk rfl n.p⟩|exact gB ⟨_,zey _ _ _ _ _ hn hg.slip ho.1 ho.2.1,.mk rfl n.p⟩|exact gB ⟨_,zvj most ss ms (zc7 ss (wr,sg)) k a hk hn (zb6 _ _) hab,.mk rfl n.p⟩|exact gK n.p|exact gS n.p)|exact⟨_,zf8 _ _,n.p⟩|exact⟨_,zha hn hm hl,n.p⟩|exact⟨_,zhb hn hm hl,n.p⟩|exact⟨_,zey _ _ _ _ _ hn hg.slip ho.1 ho.2.1,n.p⟩|exact⟨_,zvj most ss ms (zc7 ss (wr,sg)) k a hk hn (zb6 _ _) hab,n.p⟩|exact sk n.p|exact ap n.p)):G:=h ⟨n⟩
theorem z4a(most:Int)(ss:List Slip)(ms:List SumR)(k a:Int)(hn:ss.length≤20)(hm:ms.length≤20) :
  AFn (cx G) 12 [bk most ss ms,vi k,vi a] (.tup [.agg [vi (znn most ss ms k a).1.1,vi (znn most ss ms k a).1.2],vi (znn most ss ms k a).2]):=by
 refine zag Tryz.func12 rfl Tryz.ntmps12 rfl rfl rfl ?_ rfl
 refine zab fun Q hQ=>?_
 by_cases hl:zcl most ss ms (zc8 k a)=0
 ·obtain⟨hg,hw,hne⟩:=zk7 hl;have hk:=(zy0 hw).1;have hF:znn most ss ms k a=(zfu (zzc most ss ms k a) ((zaj most ss ms).length-1),0):=by rw [znn,if_neg (by simp [hl])]
  rw [hF] at hQ;have hpos:0<(zaj most ss ms).length:=kbn.2 hne;have hr:(rp (zaj most ss ms)).length=(zaj most ss ms).length:=by simp
  have hl6:=zjl hg;have hgen:∀i,i<(zaj most ss ms).length→∃wr sg,(zaj most ss ms)[i]?=some (wr,sg)∧(rp (zaj most ss ms))[i]?=some [.sl 1 (il wr),.sl 1 (bl sg)]∧(wr.length=ss.length∧sg.length=(zae ss ss.length).length∧zhn wr)∧zhn (zc7 ss (wr,sg))∧zzc most ss ms k a i=zbo ss (zc7 ss (wr,sg)) k.toNat a ss.length:=fun i hi=>by
   obtain⟨⟨wr,sg⟩,hx⟩:∃x,(zaj most ss ms)[i]?=some x:=⟨_,kaa hi⟩;have ho:=zd5 hg (kag hx);exact⟨wr,sg,hx,zrg hx,ho,zma ss wr sg ho.2.2 _,by simp [zzc,hx]⟩
  obtain⟨wr,sg,hx,hrow,ho,hab,hsp⟩:=hgen 0 hpos;have hil:0<(rp (zaj most ss ms)).length:=by rw [hr];exact hpos
  (repeat' (first|refine sx ?_|refine aS fun P9 h9=>?_|refine aB fun P9 _ _ _ _=>?_|refine crk2 ?_|(refine s2 ?_ ?_<;>intro h7<;>try omega)));refine zam ((zaj most ss ms).length-1) (fun i=>[(2*1,.av (vi k)),(2*2,.av (vi a)),(2*3,.av (.ptr 3 0)),(2*3+1,.cells 25 [vi most,.sl 7 (ss.map Slip.row),.sl 5 (ms.map SumR.row)]),(2*8,.av (.sl 2 (rp (zaj most ss ms)))),
   (2*11,.av (.ptr 11 0)),(2*11+1,.cells 30 [vi (zfu (zzc most ss ms k a) i).1,vi (zfu (zzc most ss ms k a) i).2]),(2*6,.av (.ptr 6 0)),(2*6+1,.cells 30 [vi 0,vi 0]),(2*12,.av (vi ((i:Int)+1)))]) ?_ ?_
  ·have e0:zfu (zzc most ss ms k a) 0=(zbo ss (zc7 ss (wr,sg)) k.toNat a ss.length,zbo ss (zc7 ss (wr,sg)) k.toNat a ss.length):=by simp only [zfu,hsp]
   rw [e0];exact si
  ·intro i hi;clear hrow hab hsp hx ho;rcases kae i ((zaj most ss ms).length-1) with hlt|hge
   ·have hd:decide ((i:Int)+1<((rp (zaj most ss ms)).length:Int))=true:=decide_eq_true (by rw [hr];omega);obtain⟨wr,sg,hx,hrow,ho,hab,hsp⟩:=hgen (i+1) (by omega);have hil2:i+1<(rp (zaj most ss ms)).length:=by rw [hr];omega
    have hii:((i:Int)+1)=((i+1:Nat):Int):=by simp
    have es:zfu (zzc most ss ms k a) (i+1)=(min (zfu (zzc most ss ms k a) i).1 (zbo ss (zc7 ss (wr,sg)) k.toNat a ss.length),max (zfu (zzc most ss ms k a) i).2 (zbo ss (zc7 ss (wr,sg)) k.toNat a ss.length)):=by simp only [zfu,hsp]
    (repeat' (first|refine sx ?_|refine aS fun P9 h9=>?_|refine aB fun P9 _ _ _ _=>?_|refine crk2 ?_|(refine s2 ?_ ?_<;>intro h7<;>try omega)));refine⟨hlt,?_⟩;rw [es];exact si
   ·have he:i=(zaj most ss ms).length-1:=by omega
    subst he;have hd:decide ((((zaj most ss ms).length-1:Nat):Int)+1<((rp (zaj most ss ms)).length:Int))=false:=decide_eq_false (by rw [hr];omega);(repeat' (first|refine sx ?_|refine aS fun P9 h9=>?_|refine aB fun P9 _ _ _ _=>?_|refine crk2 ?_|(refine s2 ?_ ?_<;>intro h7<;>try omega)));refine fe ?_;rfl
 ·have hF:znn most ss ms k a=((0,0),zcl most ss ms (zc8 k a)):=by rw [znn,if_pos hl]
  have hdl:decide (zcl most ss ms (zc8 k a)=0)=false:=by simpa using hl
  rw [hF] at hQ;(repeat' (first|refine sx ?_|refine aS fun P9 h9=>?_|refine aB fun P9 _ _ _ _=>?_|refine crk2 ?_|(refine s2 ?_ ?_<;>intro h7<;>try omega)));refine fe ?_;rfl
def zfj(most:Int)(ss:List Slip)(ms:List SumR)(sum:Int)(i:Nat):Bool:=decide (sum∈zan ss ms (zc7 ss ((zaj most ss ms).getD i rd0)))
def zf7(most:Int)(ss:List Slip)(ms:List SumR)(sum:Int):Int×Int :=
 if zcl most ss ms (zgc ms sum)≠0 then (0,zcl most ss ms (zgc ms sum)) else (zy9 (zcg (zfj most ss ms sum) (zaj most ss ms).length) (zaj most ss ms).length,0)
theorem yee{P G:Prop}(n:P)(h:Go.Kp.Wr P→G:=by(intro n;first|((with_reducible apply kC);first|exact gB ⟨_,zvc _ _ hml,.mk rfl n.p⟩|exact gB ⟨_,zha hn hm hl2,.mk rfl n.p⟩|exact gB ⟨_,zhb hn hm hl2,.mk rfl n.p⟩|exact gB ⟨_,zey _ _ _ _ _ hn hg.slip ho.1 ho.2.1,.mk rfl n.p⟩|exact gB ⟨_,ze3 most ss ms (zc7 ss (wr,sg)) hn hm (zb6 _ _) hab hg.k0,.mk rfl n.p⟩|exact gB ⟨_,z75 _ _ hwl,.mk rfl n.p⟩|exact gB ⟨_,z7j _ _,.mk rfl n.p⟩|exact gK n.p|exact gS n.p)|exact⟨_,zvc _ _ hml,n.p⟩|exact⟨_,zha hn hm hl2,n.p⟩|exact⟨_,zhb hn hm hl2,n.p⟩|exact⟨_,zey _ _ _ _ _ hn hg.slip ho.1 ho.2.1,n.p⟩|exact⟨_,ze3 most ss ms (zc7 ss (wr,sg)) hn hm (zb6 _ _) hab hg.k0,n.p⟩|exact⟨_,z75 _ _ hwl,n.p⟩|exact⟨_,z7j _ _,n.p⟩|exact sk n.p|exact ap n.p)):G:=h ⟨n⟩
theorem zyf(most:Int)(ss:List Slip)(ms:List SumR)(sum:Int)(hn:ss.length≤20)(hm:ms.length≤20) :
  AFn (cx G) 14 [bk most ss ms,vi sum] (.tup [vi (zf7 most ss ms sum).1,vi (zf7 most ss ms sum).2]):=by
 refine zag Tryz.func14 rfl Tryz.ntmps14 rfl rfl rfl ?_ rfl
 refine zab fun Q hQ=>?_
 have hml:0≤((ms.map SumR.row).length:Int)∧((ms.map SumR.row).length:Int)≤100000:=by simp;omega
 have hown:(if decide (0≤sum∧sum≤((ms.map SumR.row).length:Int)-1) then (0:Int) else 6)=zgc ms sum:=by unfold zgc;simp
 by_cases hl:zcl most ss ms (zgc ms sum)=0
 ·obtain⟨hg,hw,hne⟩:=zk7 hl;have hF:zf7 most ss ms sum=(zy9 (zcg (zfj most ss ms sum) (zaj most ss ms).length) (zaj most ss ms).length,0):=by rw [zf7,if_neg (by simp [hl])]
  rw [hF] at hQ;have hl2:zcl most ss ms (if decide (0≤sum∧sum≤((ms.map SumR.row).length:Int)-1) then (0:Int) else 6)=0:=by rw [hown];exact hl
  have hr:(rp (zaj most ss ms)).length=(zaj most ss ms).length:=by simp
  have hl6:=zjl hg;have hgen:∀i,i<(zaj most ss ms).length→∃wr sg,(zaj most ss ms)[i]?=some (wr,sg)∧(rp (zaj most ss ms))[i]?=some [.sl 1 (il wr),.sl 1 (bl sg)]∧(wr.length=ss.length∧sg.length=(zae ss ss.length).length∧zhn wr)∧zhn (zc7 ss (wr,sg))∧zfj most ss ms sum i=decide (sum∈zan ss ms (zc7 ss (wr,sg))):=fun i hi=>by
   obtain⟨⟨wr,sg⟩,hx⟩:∃x,(zaj most ss ms)[i]?=some x:=⟨_,kaa hi⟩;have ho:=zd5 hg (kag hx);exact⟨wr,sg,hx,zrg hx,ho,zma ss wr sg ho.2.2 _,by simp [zfj,hx]⟩
  (repeat' (first|refine sx ?_|refine aS fun P9 h9=>?_|refine aB fun P9 _ _ _ _=>?_|refine yee ?_|(refine s2 ?_ ?_<;>intro h7<;>try omega)))
  refine zam (zaj most ss ms).length (fun i=>[(2*1,.av (vi sum)),(2*2,.av (.ptr 2 0)),(2*2+1,.cells 25 [vi most,.sl 7 (ss.map Slip.row),.sl 5 (ms.map SumR.row)]),(2*6,.av (.sl 2 (rp (zaj most ss ms)))),(2*8,.av (vi (zcg (zfj most ss ms sum) i:Int))),(2*9,.av (vi i))]) ?_ ?_
  ·exact si
  ·intro i hi;have hcl:=zjz (zfj most ss ms sum) i;rcases kae i (zaj most ss ms).length with hlt|hge
   ·have hd:decide ((i:Int)<((rp (zaj most ss ms)).length:Int))=true:=decide_eq_true (by rw [hr];omega);obtain⟨wr,sg,hx,hrow,ho,hab,hsp⟩:=hgen i hlt;have hil2:i<(rp (zaj most ss ms)).length:=by rw [hr];omega
    have hwl:(zan ss ms (zc7 ss (wr,sg))).length≤100000:=by have:=zd8 ss ms (zc7 ss (wr,sg));omega
    have hi1:vi ((i+1:Nat):Int)=vi ((i:Int)+1):=by simp
    rcases ka1 (decide (sum∈zan ss ms (zc7 ss (wr,sg)))) with hb|hb
    ·have hs1:vi (zcg (zfj most ss ms sum) (i+1):Int)=vi ((zcg (zfj most ss ms sum) i:Int)+1):=by simp only [zcg];rw [hsp,hb];simp
     (repeat' (first|refine sx ?_|refine aS fun P9 h9=>?_|refine aB fun P9 _ _ _ _=>?_|refine yee ?_|(refine s2 ?_ ?_<;>intro h7<;>try omega)));refine⟨hlt,?_⟩;exact si
    ·have hs1:vi (zcg (zfj most ss ms sum) (i+1):Int)=vi (zcg (zfj most ss ms sum) i:Int):=by simp only [zcg];rw [hsp,hb];simp
     (repeat' (first|refine sx ?_|refine aS fun P9 h9=>?_|refine aB fun P9 _ _ _ _=>?_|refine yee ?_|(refine s2 ?_ ?_<;>intro h7<;>try omega)));refine⟨hlt,?_⟩;exact si
   ·have he:i=(zaj most ss ms).length:=by omega
    subst he;have hd:decide (((zaj most ss ms).length:Int)<((rp (zaj most ss ms)).length:Int))=false:=decide_eq_false (by rw [hr];omega);(repeat' (first|refine sx ?_|refine aS fun P9 h9=>?_|refine aB fun P9 _ _ _ _=>?_|refine yee ?_|(refine s2 ?_ ?_<;>intro h7<;>try omega)));refine fe ?_;rw [hr]
 ·have hF:zf7 most ss ms sum=(0,zcl most ss ms (zgc ms sum)):=by rw [zf7,if_pos hl]
  have hl2:zcl most ss ms (if decide (0≤sum∧sum≤((ms.map SumR.row).length:Int)-1) then (0:Int) else 6)≠0:=by rw [hown];exact hl
  have hdl:decide (zcl most ss ms (if decide (0≤sum∧sum≤((ms.map SumR.row).length:Int)-1) then (0:Int) else 6)=0)=false:=by simpa using hl2
  rw [hF,←hown] at hQ;(repeat' (first|refine sx ?_|refine aS fun P9 h9=>?_|refine aB fun P9 _ _ _ _=>?_|refine yee ?_|(refine s2 ?_ ?_<;>intro h7<;>try omega)));refine fe ?_;rfl
end
section
variable{G:zbf}
attribute [local irreducible] AOp AW ADr AFn ze1 AFt AOpJ
set_option maxRecDepth 20000
set_option maxHeartbeats 8000000
theorem zze{G:zbf}{N:Nat}{s:AS}(t wd:Nat)(ht:zac s (2*t)=some (.av (.val (.slice none 0 0)))):Sub G N s ((2*t,.av (.sl wd []))::s):=fun w0 a w E hr=>by
 refine⟨E,hr.sz,hr.df,hr.dfo,fun t' x hx=>?_,fun j c hc=>hr.mem j c (by rw [zaa,if_neg (by omega)] at hc;exact hc),fun j k b hjk hb=>?_,fun j b hb=>hr.new j b (by rw [zaa,if_neg (by omega)] at hb;exact hb),hr.imm,hr.ext,hr.old,fun k c hk j hj=>?_,hr.glb⟩
 ·rw [zaa] at hx;split at hx
  ·cases hx;have:t'=t:=by omega
   subst this;rw [(hr.tmp _ _ ht).val_eq];exact .nil wd
  ·exact hr.tmp t' x hx
 ·rw [zaa,if_neg (by omega)] at hb ⊢;exact hr.dis j k b hjk hb
 ·rw [zaa,if_neg (by omega)];rw [zaa] at hk;split at hk
  ·cases hk;simp [za7.ids,AV.ids] at hj
  ·exact hr.scp k c hk j hj
def zi0(ss:List Slip)(ms:List SumR)(p:zfo):Bool:=zf9 ss (zc7 ss p)&&!zse ms (zan ss ms (zc7 ss p))
def zp8(ss:List Slip)(ms:List SumR)(ps:List zfo):Nat→Option (List Int)
 | 0=>none
 | n+1=>if zi0 ss ms (ps.getD n rd0)=true then
    match zp8 ss ms ps n with
    | none=>some (zan ss ms (zc7 ss (ps.getD n rd0)))
    | some b=>if zh3 (zan ss ms (zc7 ss (ps.getD n rd0))) b=true then some (zan ss ms (zc7 ss (ps.getD n rd0))) else some b
   else zp8 ss ms ps n
theorem z1x(ss:List Slip)(ms:List SumR)(ps:List zfo):∀n,((zp8 ss ms ps n).getD []).length≤ms.length
 | 0=>by simp [zp8]
 | n+1=>by
   have ih:=z1x ss ms ps n;have hw:=zd8 ss ms (zc7 ss (ps.getD n rd0));unfold zp8;split
   ·split
    ·simpa using hw
    ·rename_i b hb;rw [hb] at ih;split
     ·simpa using hw
     ·exact ih
   ·exact ih
def zcf(most:Int)(ss:List Slip)(ms:List SumR):List Int×Int :=
 if zak most ss ms≠0 then ([],zak most ss ms) else match zp8 ss ms (zds ss) (zds ss).length with
  | none=>([],9)
  | some b=>(b,0)
theorem zrr{α:Type}{x:Option α}:x=none∨∃b,x=some b:=by cases x with|none=>exact .inl rfl|some b=>exact .inr ⟨b,rfl⟩
theorem z6d{P G:Prop}(n:P)(h:Go.Kp.Wr P→G:=by(intro n;first|((with_reducible apply kC);first|exact gB ⟨_,zg8 _ _ _ hn hm,.mk rfl n.p⟩|exact gB ⟨_,zqg hg,.mk rfl n.p⟩|exact gB ⟨_,zey _ _ _ _ _ hn hg.slip ho.1 ho.2.1,.mk rfl n.p⟩|exact gB ⟨_,ze3 most ss ms (zc7 ss (wr,sg)) hn hm (zb6 _ _) hab hg.k0,.mk rfl n.p⟩|exact gB ⟨_,zll most ss ms (zc7 ss (wr,sg)) hn (by rw [zb6];exact kac _) hab,.mk rfl n.p⟩|exact gB ⟨_,zwi _ _ _ _ hwl (zd9 _ _ _),.mk rfl n.p⟩|exact gB ⟨_,zq8 _ _ hwl hbl,.mk rfl n.p⟩|exact gK n.p|exact gS n.p)|exact⟨_,zg8 _ _ _ hn hm,n.p⟩|exact⟨_,zqg hg,n.p⟩|exact⟨_,zey _ _ _ _ _ hn hg.slip ho.1 ho.2.1,n.p⟩|exact⟨_,ze3 most ss ms (zc7 ss (wr,sg)) hn hm (zb6 _ _) hab hg.k0,n.p⟩|exact⟨_,zll most ss ms (zc7 ss (wr,sg)) hn (by rw [zb6];exact kac _) hab,n.p⟩|exact⟨_,zwi _ _ _ _ hwl (zd9 _ _ _),n.p⟩|exact⟨_,zq8 _ _ hwl hbl,n.p⟩|exact sk n.p|exact ap n.p)):G:=h ⟨n⟩
theorem zui(most:Int)(ss:List Slip)(ms:List SumR)(hn:ss.length≤20)(hm:ms.length≤20) :
  AFn (cx G) 16 [bk most ss ms] (if zcf most ss ms=([],9)∨zak most ss ms≠0 then .tup [.val (.slice none 0 0),vi (zcf most ss ms).2] else .tup [.sl 1 (il (zcf most ss ms).1),vi 0]):=by
 have hids:(if zcf most ss ms=([],9)∨zak most ss ms≠0 then AV.tup [.val (.slice none 0 0),vi (zcf most ss ms).2] else .tup [.sl 1 (il (zcf most ss ms).1),vi 0]).ids=[]:=by split<;>rfl
 refine zag Tryz.func16 rfl Tryz.ntmps16 rfl rfl rfl ?_ hids
 refine zab fun Q hQ=>?_
 by_cases hc:zak most ss ms=0
 ·have hg:=(za2 most ss ms).1 hc;have hd1:decide (zak most ss ms=0)=true:=by simpa using hc
  have hal:=zqn hg;have hr:(rp (zds ss)).length=(zds ss).length:=by simp
  (repeat' (first|refine sx ?_|refine aS fun P9 h9=>?_|refine aB fun P9 _ _ _ _=>?_|refine z6d ?_|(refine s2 ?_ ?_<;>intro h7<;>try omega)));refine zbx (zze 6 1 rfl) ?_
  refine zam (zds ss).length (fun i=>[(2*1,.av (.ptr 1 0)),(2*1+1,.cells 25 [vi most,.sl 7 (ss.map Slip.row),.sl 5 (ms.map SumR.row)]),(2*5,.av (.sl 2 (rp (zds ss)))),(2*6,.av (.sl 1 (il ((zp8 ss ms (zds ss) i).getD [])))),(2*7,.av (vb (zp8 ss ms (zds ss) i).isSome)),(2*8,.av (vi i))]) ?_ ?_
  ·exact si
  ·intro i hi;rcases kae i (zds ss).length with hlt|hge
   ·obtain⟨⟨wr,sg⟩,hp⟩:∃p,(zds ss)[i]?=some p:=⟨_,kaa hlt⟩;have hrow:=zrg hp;have hil:i<(rp (zds ss)).length:=by rw [hr];exact hlt
    have ho:=zuu hg.lo _ (kag hp);have hab:zhn (zc7 ss (wr,sg)):=zma ss wr sg ho.2.2 ss.length;have hgp:(zds ss).getD i rd0=(wr,sg):=by simp [hp]
    have hd:decide ((i:Int)<((rp (zds ss)).length:Int))=true:=decide_eq_true (by rw [hr];omega);have hi1:vi ((i+1:Nat):Int)=vi ((i:Int)+1):=by simp
    have hwl:(zan ss ms (zc7 ss (wr,sg))).length≤100000:=by have:=zd8 ss ms (zc7 ss (wr,sg));omega
    have hsucc:zp8 ss ms (zds ss) (i+1)=if zi0 ss ms (wr,sg)=true then
   match zp8 ss ms (zds ss) i with
   | none=>some (zan ss ms (zc7 ss (wr,sg)))
   | some b=>if zh3 (zan ss ms (zc7 ss (wr,sg))) b=true then some (zan ss ms (zc7 ss (wr,sg))) else some b
  else zp8 ss ms (zds ss) i:=by rw [←hgp];rfl
    rcases ka1 (zf9 ss (zc7 ss (wr,sg))) with hb1|hb1
    ·rcases ka1 (zse ms (zan ss ms (zc7 ss (wr,sg)))) with hb2|hb2
     ·have hk:zi0 ss ms (wr,sg)=false:=by simp [zi0,hb1,hb2]
      rw [if_neg (by rw [hk];simp)] at hsucc;(repeat' (first|refine sx ?_|refine aS fun P9 h9=>?_|refine aB fun P9 _ _ _ _=>?_|refine z6d ?_|(refine s2 ?_ ?_<;>intro h7<;>try omega)));refine⟨hlt,?_⟩;rw [hsucc];exact si
     ·have hk:zi0 ss ms (wr,sg)=true:=by simp [zi0,hb1,hb2]
      rw [if_pos hk] at hsucc;have hbl:=z1x ss ms (zds ss) i;rcases zrr (x:=zp8 ss ms (zds ss) i) with hf|⟨b,hf⟩
      ·rw [hf] at hsucc ⊢;(repeat' (first|refine sx ?_|refine aS fun P9 h9=>?_|refine aB fun P9 _ _ _ _=>?_|refine z6d ?_|(refine s2 ?_ ?_<;>intro h7<;>try omega)));refine⟨hlt,?_⟩;rw [hsucc];exact si
      ·rw [hf] at hsucc hbl ⊢;have hbl:b.length≤100000:=by simp at hbl;omega
       dsimp only at hsucc;rcases ka1 (zh3 (zan ss ms (zc7 ss (wr,sg))) b) with hs|hs
       ·rw [if_pos hs] at hsucc;(repeat' (first|refine sx ?_|refine aS fun P9 h9=>?_|refine aB fun P9 _ _ _ _=>?_|refine z6d ?_|(refine s2 ?_ ?_<;>intro h7<;>try omega)));refine⟨hlt,?_⟩;rw [hsucc];exact si
       ·rw [if_neg (by rw [hs];simp)] at hsucc;(repeat' (first|refine sx ?_|refine aS fun P9 h9=>?_|refine aB fun P9 _ _ _ _=>?_|refine z6d ?_|(refine s2 ?_ ?_<;>intro h7<;>try omega)));refine⟨hlt,?_⟩;rw [hsucc];exact si
    ·have hk:zi0 ss ms (wr,sg)=false:=by simp [zi0,hb1]
     rw [if_neg (by rw [hk];simp)] at hsucc;(repeat' (first|refine sx ?_|refine aS fun P9 h9=>?_|refine aB fun P9 _ _ _ _=>?_|refine z6d ?_|(refine s2 ?_ ?_<;>intro h7<;>try omega)));refine⟨hlt,?_⟩;rw [hsucc];exact si
   ·have he:i=(zds ss).length:=by omega
    subst he;have hd:decide (((zds ss).length:Int)<((rp (zds ss)).length:Int))=false:=decide_eq_false (by rw [hr];omega);rcases zrr (x:=zp8 ss ms (zds ss) (zds ss).length) with hf|⟨b,hf⟩
    ·have hF:zcf most ss ms=([],9):=by simp [zcf,hc,hf]
     rw [if_pos (.inl hF),hF] at hQ;rw [hf];(repeat' (first|refine sx ?_|refine aS fun P9 h9=>?_|refine aB fun P9 _ _ _ _=>?_|refine z6d ?_|(refine s2 ?_ ?_<;>intro h7<;>try omega)));refine fe ?_;rfl
    ·have hF:zcf most ss ms=(b,0):=by simp [zcf,hc,hf]
     rw [if_neg (by rw [hF];simp [hc]),hF] at hQ;rw [hf];(repeat' (first|refine sx ?_|refine aS fun P9 h9=>?_|refine aB fun P9 _ _ _ _=>?_|refine z6d ?_|(refine s2 ?_ ?_<;>intro h7<;>try omega)));refine fe ?_;rfl
 ·have hd1:decide (zak most ss ms=0)=false:=by simpa using hc
  have hF:zcf most ss ms=([],zak most ss ms):=by simp [zcf,hc]
  rw [if_pos (.inr hc),hF] at hQ;(repeat' (first|refine sx ?_|refine aS fun P9 h9=>?_|refine aB fun P9 _ _ _ _=>?_|refine z6d ?_|(refine s2 ?_ ?_<;>intro h7<;>try omega)));refine fe ?_;rfl
end
section
variable{G:zbf}
attribute [local irreducible] AOp AW ADr AFn ze1 AFt AOpJ
set_option maxRecDepth 20000
set_option maxHeartbeats 8000000
theorem z7x(l:List Int)(hl:l.length≤100000):AFn (cx G) 87 [.sl 1 (il l)] (vi (mostU l l.length:Int)):=by
 refine zag Tryz.func87 rfl Tryz.ntmps87 rfl rfl rfl ?_ rfl;refine zab fun Q hQ=>?_;have hr:(il l).length=l.length:=by simp
 (repeat' (first|refine sx ?_|refine aS fun P9 h9=>?_|refine aB fun P9 _ _ _ _=>?_|refine w0 ?_|(refine s2 ?_ ?_<;>intro h7<;>try omega)));refine zam l.length (fun i=>[(2*0,.av (.sl 1 (il l))),(2*3,.av (vi (mostU l i:Int))),(2*4,.av (vi i))]) ?_ ?_
 ·exact si
 ·intro i hi;rcases kae i l.length with hlt|hge
  ·obtain⟨z,hz⟩:∃z,l[i]?=some z:=⟨_,kaa hlt⟩;have hzr:(il l)[i]?=some [vi z]:=zcm hz;have hzl:i<(il l).length:=by rw [hr];exact hlt
   have hgz:l.getD i 0=z:=by simp [hz]
   have hd:decide ((i:Int)<((il l).length:Int))=true:=decide_eq_true (by rw [hr];omega);have hi1:vi ((i+1:Nat):Int)=vi ((i:Int)+1):=by simp
   (repeat' (first|refine sx ?_|refine aS fun P9 h9=>?_|refine aB fun P9 _ _ _ _=>?_|refine w0 ?_|(refine s2 ?_ ?_<;>intro h7<;>try omega)));refine zam l.length (fun k=>[(2*0,.av (.sl 1 (il l))),(2*3,.av (vi (mostU l i:Int))),(2*4,.av (vi i)),(2*5,.av (vi (zcg (za0 l i) k:Int))),(2*6,.av (vi k))]) ?_ ?_
   ·exact si
   ·intro k hk;have hcl:=zjz (za0 l i) k;rcases kae k l.length with hkl|hkg
    ·obtain⟨y,hy⟩:∃y,l[k]?=some y:=⟨_,kaa hkl⟩;have hyr:(il l)[k]?=some [vi y]:=zcm hy;have hyl:k<(il l).length:=by rw [hr];exact hkl
     have hgy:l.getD k 0=y:=by simp [hy]
     have hdk:decide ((k:Int)<((il l).length:Int))=true:=decide_eq_true (by rw [hr];omega);have hk1:vi ((k+1:Nat):Int)=vi ((k:Int)+1):=by simp
     by_cases hyz:y=z
     ·have hde:decide (y=z)=true:=by simpa using hyz
      have hs1:vi (zcg (za0 l i) (k+1):Int)=vi ((zcg (za0 l i) k:Int)+1):=by
       have hsa:za0 l i k=true:=by unfold za0;rw [hgy,hgz];exact hde
       simp [zcg,hsa]
      (repeat' (first|refine sx ?_|refine aS fun P9 h9=>?_|refine aB fun P9 _ _ _ _=>?_|refine w0 ?_|(refine s2 ?_ ?_<;>intro h7<;>try omega)));refine⟨hkl,?_⟩;exact si
     ·have hde:decide (y=z)=false:=by simpa using hyz
      have hs1:vi (zcg (za0 l i) (k+1):Int)=vi (zcg (za0 l i) k:Int):=by
       have hsa:za0 l i k=false:=by unfold za0;rw [hgy,hgz];exact hde
       simp [zcg,hsa]
      (repeat' (first|refine sx ?_|refine aS fun P9 h9=>?_|refine aB fun P9 _ _ _ _=>?_|refine w0 ?_|(refine s2 ?_ ?_<;>intro h7<;>try omega)));refine⟨hkl,?_⟩;exact si
    ·have he:k=l.length:=by omega
     subst he;have hdk:decide ((l.length:Int)<((il l).length:Int))=false:=decide_eq_false (by rw [hr];omega);have hm1:vi (mostU l (i+1):Int)=vi (max (mostU l i:Int) (zcg (za0 l i) l.length:Int)):=by simp only [mostU];congr 2;omega
     (repeat' (first|refine sx ?_|refine aS fun P9 h9=>?_|refine aB fun P9 _ _ _ _=>?_|refine w0 ?_|(refine s2 ?_ ?_<;>intro h7<;>try omega)));refine⟨hlt,?_⟩;exact si
  ·have he:i=l.length:=by omega
   subst he;have hd:decide ((l.length:Int)<((il l).length:Int))=false:=decide_eq_false (by rw [hr];omega);(repeat' (first|refine sx ?_|refine aS fun P9 h9=>?_|refine aB fun P9 _ _ _ _=>?_|refine w0 ?_|(refine s2 ?_ ?_<;>intro h7<;>try omega)));refine fe ?_;rfl
def zql(ss:List Slip)(ps:List zfo)(slip:Nat):List Int:=ps.map fun p=>(zc7 ss p).getD slip 0
theorem crm0{P G:Prop}(n:P)(h:Go.Kp.Wr P→G:=by(intro n;first|((with_reducible apply kC);first|exact gB ⟨_,zey _ _ _ _ _ hn hok ho.1 ho.2,.mk rfl n.p⟩|exact gK n.p|exact gS n.p)|exact⟨_,zey _ _ _ _ _ hn hok ho.1 ho.2,n.p⟩|exact sk n.p|exact ap n.p)):G:=h ⟨n⟩
theorem zo2(most:Int)(ss:List Slip)(ms:List SumR)(ps:List zfo)(slip:Nat)(hn:ss.length≤20)(hs:slip<ss.length)(hps:ps.length≤100000)(hok:∀(i:Nat) (s:Slip),ss[i]?=some s→zne ss i s)(hp:∀p∈ps,p.1.length=ss.length∧p.2.length=(zae ss ss.length).length) :
  AFn (cx G) 88 [bk most ss ms,.sl 2 (rp ps),vi slip] (.sl 1 (il (zql ss ps slip))):=by
 refine zag Tryz.func88 rfl Tryz.ntmps88 rfl rfl rfl ?_ rfl
 refine zab fun Q hQ=>?_
 have hr:(rp ps).length=ps.length:=by simp
 (repeat' (first|refine sx ?_|refine aS fun P9 h9=>?_|refine aB fun P9 _ _ _ _=>?_|refine crm0 ?_|(refine s2 ?_ ?_<;>intro h7<;>try omega)))
 refine zbx (zbd 7 1000 1 3 rfl rfl) ?_
 refine zam ps.length (fun i=>[(2*3,.av (.ptr 3 0)),(2*3+1,.cells 25 [vi most,.sl 7 (ss.map Slip.row),.sl 5 (ms.map SumR.row)]),(2*1,.av (.sl 2 (rp ps))),(2*2,.av (vi slip)),(2*7,.av (.own 1000)),(2*1000+1,.buf 1 3 (il (zql ss (ps.take i) slip))),(2*8,.av (vi i))]) ?_ ?_
 ·exact si
 ·intro i hi;rcases kae i ps.length with hlt|hge
  ·obtain⟨⟨wr,sg⟩,hx⟩:∃p,ps[i]?=some p:=⟨_,kaa hlt⟩;have hrow:=zrg hx;have hil:i<(rp ps).length:=by rw [hr];exact hlt
   have ho:=hp _ (kag hx);have hd:decide ((i:Int)<((rp ps).length:Int))=true:=decide_eq_true (by rw [hr];omega);have hi1:vi ((i+1:Nat):Int)=vi ((i:Int)+1):=by simp
   have hnl:=zb6 ss (wr,sg);obtain⟨z,hz⟩:∃z,(zc7 ss (wr,sg))[slip]?=some z:=⟨_,kaa (by omega)⟩;have hzr:(il (zdv ss wr sg ss.length).1)[slip]?=some [vi z]:=zcm hz;have hzl:slip<(il (zdv ss wr sg ss.length).1).length:=by rw [ka6];show slip<(zc7 ss (wr,sg)).length;omega
   have hgz:(zc7 ss (wr,sg)).getD slip 0=z:=by simp [hz]
   have h1000:(il (zql ss (ps.take i) slip)).length+[[vi z]].length≤1000000000:=by simp [zql];omega
   have hsucc:il (zql ss (ps.take (i+1)) slip)=il (zql ss (ps.take i) slip)++[[vi z]]:=by rw [kb8,hx];simp only [zql,Option.toList,il,kbt,kbq,List.map_nil,hgz]
   (repeat' (first|refine sx ?_|refine aS fun P9 h9=>?_|refine aB fun P9 _ _ _ _=>?_|refine crm0 ?_|(refine s2 ?_ ?_<;>intro h7<;>try omega)));refine⟨hlt,?_⟩;refine zbg (rn1 1000 26) ?_ rfl rfl;exact sr
  ·have he:i=ps.length:=by omega
   subst he;have hd:decide ((ps.length:Int)<((rp ps).length:Int))=false:=decide_eq_false (by rw [hr];omega);(repeat' (first|refine sx ?_|refine aS fun P9 h9=>?_|refine aB fun P9 _ _ _ _=>?_|refine crm0 ?_|(refine s2 ?_ ?_<;>intro h7<;>try omega)));refine fe ?_;rw [kdl]
def zst(most:Int)(ss:List Slip)(ms:List SumR)(i:Nat):Nat:=mostU (zql ss (zaj most ss ms) i) (zql ss (zaj most ss ms) i).length
def znr(most:Int)(ss:List Slip)(ms:List SumR):(Int×Int)×Int :=
 if zcl most ss ms 0≠0 then ((0,0),zcl most ss ms 0) else (((zhj (zst most ss ms) (zaj most ss ms).length ss.length).1,((zhj (zst most ss ms) (zaj most ss ms).length ss.length).2:Int)),0)
theorem yed{P G:Prop}(n:P)(h:Go.Kp.Wr P→G:=by(intro n;first|((with_reducible apply kC);first|exact gB ⟨_,zha hn hm hl,.mk rfl n.p⟩|exact gB ⟨_,zhb hn hm hl,.mk rfl n.p⟩|exact gB ⟨_,zo2 most ss ms (zaj most ss ms) i hn hlt hpl hg.slip (fun p hp=>⟨(zd5 hg hp).1,(zd5 hg hp).2.1⟩),.mk rfl n.p⟩|exact gB ⟨_,z7x _ hal,.mk rfl n.p⟩|exact gK n.p|exact gS n.p)|exact⟨_,zha hn hm hl,n.p⟩|exact⟨_,zhb hn hm hl,n.p⟩|exact⟨_,zo2 most ss ms (zaj most ss ms) i hn hlt hpl hg.slip (fun p hp=>⟨(zd5 hg hp).1,(zd5 hg hp).2.1⟩),n.p⟩|exact⟨_,z7x _ hal,n.p⟩|exact sk n.p|exact ap n.p)):G:=h ⟨n⟩
theorem z6t(most:Int)(ss:List Slip)(ms:List SumR)(hn:ss.length≤20)(hm:ms.length≤20) :
  AFn (cx G) 19 [bk most ss ms] (.tup [vi (znr most ss ms).1.1,vi (znr most ss ms).1.2,vi (znr most ss ms).2]):=by
 refine zag Tryz.func19 rfl Tryz.ntmps19 rfl rfl rfl ?_ rfl
 refine zab fun Q hQ=>?_
 by_cases hl:zcl most ss ms 0=0
 ·obtain⟨hg,_,hne⟩:=zk7 hl;have hF:znr most ss ms=(((zhj (zst most ss ms) (zaj most ss ms).length ss.length).1,((zhj (zst most ss ms) (zaj most ss ms).length ss.length).2:Int)),0):=by rw [znr,if_neg (by simp [hl])]
  rw [hF] at hQ;have hr:(rp (zaj most ss ms)).length=(zaj most ss ms).length:=by simp
  have hpl:(zaj most ss ms).length≤100000:=by have:=zjl hg;omega
  have hal:∀i,(zql ss (zaj most ss ms) i).length≤100000:=fun i=>by simpa [zql] using hpl
  have hrs:(ss.map Slip.row).length=ss.length:=by simp
  (repeat' (first|refine sx ?_|refine aS fun P9 h9=>?_|refine aB fun P9 _ _ _ _=>?_|refine yed ?_|(refine s2 ?_ ?_<;>intro h7<;>try omega)))
  refine zam ss.length (fun i=>[(2*1,.av (.ptr 1 0)),(2*1+1,.cells 25 [vi most,.sl 7 (ss.map Slip.row),.sl 5 (ms.map SumR.row)]),(2*5,.av (.sl 2 (rp (zaj most ss ms)))),(2*7,.av (vi (zhj (zst most ss ms) (zaj most ss ms).length i).1)),(2*8,.av (vi ((zhj (zst most ss ms) (zaj most ss ms).length i).2:Int))),(2*9,.av (vi i))]) ?_ ?_
  ·have e0:vi ((zhj (zst most ss ms) (zaj most ss ms).length 0).2:Int)=vi ((rp (zaj most ss ms)).length:Int):=by rw [hr];rfl
   have e1:vi (zhj (zst most ss ms) (zaj most ss ms).length 0).1=vi (-1):=rfl;exact si
  ·intro i hi;rcases kae i ss.length with hlt|hge
   ·have hd:decide ((i:Int)<((ss.map Slip.row).length:Int))=true:=decide_eq_true (by rw [hrs];omega);have hi1:vi ((i+1:Nat):Int)=vi ((i:Int)+1):=by simp
    have hal:=hal i;by_cases hlt2:zst most ss ms i<(zhj (zst most ss ms) (zaj most ss ms).length i).2
    ·have hd2:decide ((mostU (zql ss (zaj most ss ms) i) (zql ss (zaj most ss ms) i).length:Int)<((zhj (zst most ss ms) (zaj most ss ms).length i).2:Int))=true:=decide_eq_true (Int.ofNat_lt.2 hlt2);have hsucc:zhj (zst most ss ms) (zaj most ss ms).length (i+1)=((i:Int),mostU (zql ss (zaj most ss ms) i) (zql ss (zaj most ss ms) i).length):=by unfold zhj;rw [if_pos hlt2];rfl
     (repeat' (first|refine sx ?_|refine aS fun P9 h9=>?_|refine aB fun P9 _ _ _ _=>?_|refine yed ?_|(refine s2 ?_ ?_<;>intro h7<;>try omega)));refine⟨hlt,?_⟩;rw [hsucc];exact si
    ·have hd2:decide ((mostU (zql ss (zaj most ss ms) i) (zql ss (zaj most ss ms) i).length:Int)<((zhj (zst most ss ms) (zaj most ss ms).length i).2:Int))=false:=decide_eq_false fun h=>hlt2 (Int.ofNat_lt.1 h);have hsucc:zhj (zst most ss ms) (zaj most ss ms).length (i+1)=zhj (zst most ss ms) (zaj most ss ms).length i:=by rw [zhj];rw [if_neg hlt2]
     (repeat' (first|refine sx ?_|refine aS fun P9 h9=>?_|refine aB fun P9 _ _ _ _=>?_|refine yed ?_|(refine s2 ?_ ?_<;>intro h7<;>try omega)));refine⟨hlt,?_⟩;rw [hsucc];exact si
   ·have he:i=ss.length:=by omega
    subst he;have hd:decide ((ss.length:Int)<((ss.map Slip.row).length:Int))=false:=decide_eq_false (by rw [hrs];omega);(repeat' (first|refine sx ?_|refine aS fun P9 h9=>?_|refine aB fun P9 _ _ _ _=>?_|refine yed ?_|(refine s2 ?_ ?_<;>intro h7<;>try omega)));refine fe ?_;rfl
 ·have hF:znr most ss ms=((0,0),zcl most ss ms 0):=by rw [znr,if_pos hl]
  have hdl:decide (zcl most ss ms 0=0)=false:=by simpa using hl
  rw [hF] at hQ;(repeat' (first|refine sx ?_|refine aS fun P9 h9=>?_|refine aB fun P9 _ _ _ _=>?_|refine yed ?_|(refine s2 ?_ ?_<;>intro h7<;>try omega)));refine fe ?_;rfl
end
end Go.Ab.J
