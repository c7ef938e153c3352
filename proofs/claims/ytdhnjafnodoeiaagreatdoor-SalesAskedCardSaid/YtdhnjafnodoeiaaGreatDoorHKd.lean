/- For every book, whatever was written and whichever sums are false, the function SalesAsked answers true, whatever other goroutines do, and leaves its arguments as they were. Conditions: those of the given row. -/
import Derived.Test.YtdhnjafnodoeiaaGreatDoorHKc
import Derived.AtR
import Derived.Calls
import Derived.ChangeKeysEq
import Derived.Conc.AtomicLaws2
import Derived.Conc.Beside
import Derived.Conc.ClockLaws
import Derived.Conc.CompanyDraw
import Derived.Conc.CompanyMem
import Derived.Conc.HoldsTime
import Derived.Conc.LockJoin
import Derived.Conc.MarkLaws
import Derived.Conc.MuStops
import Derived.Conc.Own
import Derived.Conc.Starve
import Derived.Conc.WgArith
import Derived.Great.BuildSlice
import Derived.Great.FillDense
import Derived.Laws.OwnMore
import Derived.Laws.Sem
import Derived.Laws.StructEq
import Derived.LoopNIn
import Derived.MapKept
import Derived.Maps.AppendAt
import Derived.OwnWalkIn
import Derived.RangeFuncBound
import Derived.RangeFuncCalls
import Derived.RangeFuncLeaves
import Derived.RangeFuncNested
import Derived.RangeFuncRecord
import Derived.Shelf.Abstract
import Derived.TacticsInMore
import Derived.Test.YtdhnjafnodoeiaaGreatDoorProg
import Derived.WalkKit
namespace Go.Ab.J
open Go Go.Proofs Go.Kp
section
variable{G:zbf}
attribute [local irreducible] AOp AW ADr AFn ze1 AFt AOpJ
set_option maxRecDepth 20000
set_option maxHeartbeats 8000000
theorem zw6{C:Cx}{f:FuncId}{xs ys:List AV}{r:AV}(h:AFn C f ys r)(k:∀(E:Env) (w:World) vs,yf1 E w xs vs→yf1 E w ys vs):AFn C f xs r:=by unfold AFn at *;exact⟨h.1,h.2.1,fun Post imm σ w vs h1 h2 h3=>h.2.2 Post imm σ w vs h1 h2 (k _ _ _ h3)⟩
abbrev zfo:=List Int×List Bool
def zhu(ss:List Slip):Nat→Nat→List Int→List Bool→List zfo
 | 0,_,wr,sg=>[(wr,sg)]
 | m+1,i,wr,sg=>(zbr (ss.getD i d7).lo (ss.getD i d7).hi).flatMap fun n =>
   if (ss.getD i d7).kind≠5 then zhu ss m (i+1) (wr++[n]) sg
   else (if (ss.getD i d7).signed≠1 then zhu ss m (i+1) (wr++[n]) (sg++[false]) else [])++(if (ss.getD i d7).signed≠2 then zhu ss m (i+1) (wr++[n]) (sg++[true]) else [])
abbrev rp(l:List zfo):List (List AV):=l.map fun p=>[.sl 1 (il p.1),.sl 1 (bl p.2)]
theorem zhi(ss:List Slip)(h3:∀s∈ss,s.hi-s.lo<3):∀m i wr sg,(zhu ss m i wr sg).length≤6 ^ m
 | 0,i,wr,sg=>by simp [zhu]
 | m+1,i,wr,sg=>by
   have hw:(zbr (ss.getD i d7).lo (ss.getD i d7).hi).length≤3:=by
    rw [zl0];have:(ss.getD i d7).hi-(ss.getD i d7).lo<3:=by
     rcases kae i ss.length with h|h
     ·rw [show ss.getD i d7=ss[i] by simp [h]];exact h3 _ (kbf h)
     ·rw [show ss.getD i d7=d7 by simp [h]];decide
    omega
   have h1:∀n∈zbr (ss.getD i d7).lo (ss.getD i d7).hi,(if (ss.getD i d7).kind≠5 then zhu ss m (i+1) (wr++[n]) sg
   else (if (ss.getD i d7).signed≠1 then zhu ss m (i+1) (wr++[n]) (sg++[false]) else [])++(if (ss.getD i d7).signed≠2 then zhu ss m (i+1) (wr++[n]) (sg++[true]) else [])).length≤2*6 ^ m:=fun n _=>by
    have a:=zhi ss h3 m (i+1) (wr++[n]) sg;have b:=zhi ss h3 m (i+1) (wr++[n]) (sg++[false]);have c:=zhi ss h3 m (i+1) (wr++[n]) (sg++[true]);split
    ·omega
    ·rw [kbx];split<;>split<;>(try simp only [kbv])<;>omega
   have:=zoq h1;unfold zhu;have h4:=kcy (2*6 ^ m) hw;rw [Nat.pow_succ];omega
def yck(ss:List Slip)(m i:Nat)(wr:List Int)(sg:List Bool)(n:Int):List zfo :=
    if (ss.getD i d7).kind≠5 then zhu ss m (i+1) (wr++[n]) sg
    else (if (ss.getD i d7).signed≠1 then zhu ss m (i+1) (wr++[n]) (sg++[false]) else [])++(if (ss.getD i d7).signed≠2 then zhu ss m (i+1) (wr++[n]) (sg++[true]) else [])
def zlk(ss:List Slip)(m i:Nat)(wr:List Int)(sg:List Bool)(q:Nat):List zfo:=((zbr (ss.getD i d7).lo (ss.getD i d7).hi).take q).flatMap (yck ss m i wr sg)
theorem z2l(ss:List Slip)(m i:Nat)(wr:List Int)(sg:List Bool)(q:Nat)(hq:(ss.getD i d7).lo+(q:Int)≤(ss.getD i d7).hi):zlk ss m i wr sg (q+1)=zlk ss m i wr sg q++yck ss m i wr sg ((ss.getD i d7).lo+(q:Int)):=by unfold zlk;rw [(znw _ _ q hq).1,List.flatMap_append];simp
theorem zwv(ss:List Slip)(m i:Nat)(wr:List Int)(sg:List Bool):zlk ss m i wr sg (zbr (ss.getD i d7).lo (ss.getD i d7).hi).length=zhu ss (m+1) i wr sg:=by unfold zlk;rw [kdl];rfl
theorem ybc{P G:Prop}(n:P)(h:Go.Kp.Wr P→G:=by(intro n;first|((with_reducible apply kC);first|exact gB ⟨_,c0,.mk rfl n.p⟩|exact gB ⟨_,c1,.mk rfl n.p⟩|exact gB ⟨_,c2,.mk rfl n.p⟩|exact gK n.p|exact gS n.p)|exact⟨_,c0,n.p⟩|exact⟨_,c1,n.p⟩|exact⟨_,c2,n.p⟩|exact sk n.p|exact ap n.p)):G:=h ⟨n⟩
theorem yeh(most:Int)(ss:List Slip)(ms:List SumR)(hn:ss.length≤6)(hok:∀s∈ss,(0≤s.lo∧s.hi≤999)∧s.lo≤s.hi∧s.hi-s.lo<3):∀(m i:Nat) (wr:List Int) (sg:List Bool),wr.length=i→i+m=ss.length→sg.length≤i→
  AFn (cx G) 153 [bk most ss ms,.agg [.sl 1 (il wr),.sl 1 (bl sg)]] (.sl 2 (rp (zhu ss m i wr sg))):=by
 intro m
 induction m with
 | zero =>
   intro i wr sg hw hi hs;refine zag Tryz.func153 rfl Tryz.ntmps153 rfl rfl rfl ?_ rfl;refine zab fun Q hQ=>?_;have hd:decide (((il wr).length:Int)=((ss.map Slip.row).length:Int))=true:=by simp;omega
   (repeat' (first|refine sx ?_|refine aS fun P9 h9=>?_|refine aB fun P9 _ _ _ _=>?_|refine ybc ?_|(refine s2 ?_ ?_<;>intro h7<;>try omega)));refine fe ?_;rfl
 | succ m ih =>
   intro i wr sg hw hi hs;refine zag Tryz.func153 rfl Tryz.ntmps153 rfl rfl rfl ?_ rfl;refine zab fun Q hQ=>?_;have hil:i<ss.length:=by omega
   have hd:decide (((il wr).length:Int)=((ss.map Slip.row).length:Int))=false:=by simp;omega
   obtain⟨s,hss⟩:∃s,ss[i]?=some s:=⟨_,kaa hil⟩;have hrow:(ss.map Slip.row)[i]?=some s.row:=by simp [hss]
   have hil2:i<(ss.map Slip.row).length:=by simpa using hil
   have hg:ss.getD i d7=s:=by simp [hss]
   have hsm:=hok s (kag hss);have hil3:(il wr).length=i:=by simp [hw]
   have hrow3:(ss.map Slip.row)[(il wr).length]?=some s.row:=by rw [hil3];exact hrow
   have hil4:(il wr).length<(ss.map Slip.row).length:=by rw [hil3];exact hil2
   have h3:∀s∈ss,s.hi-s.lo<3:=fun s hs=>(hok s hs).2.2;have hsl:=zl0 s.lo s.hi;have hU:∀q,q≤(zbr s.lo s.hi).length→(zlk ss m i wr sg q).length≤60000:=fun q _=>by
    have h1:=zhi ss h3 (m+1) i wr sg;rw [←zwv] at h1;have h2:6 ^ (m+1)≤6 ^ 6:=kbi (by decide) (by omega);have h4:(zlk ss m i wr sg q).length≤(zlk ss m i wr sg (zbr (ss.getD i d7).lo (ss.getD i d7).hi).length).length:=by
     unfold zlk;rw [kdl]
     conv=>rhs;rw [←List.take_append_drop q (zbr (ss.getD i d7).lo (ss.getD i d7).hi)]
     rw [List.flatMap_append,kbx];omega
    have:6 ^ 6=46656:=by decide
    omega
   have hR:∀wr sg,(zhu ss m (i+1) wr sg).length≤60000:=fun wr sg=>by
    have h1:=zhi ss h3 m (i+1) wr sg;have h2:6 ^ m≤6 ^ 6:=kbi (by decide) (by omega);have:6 ^ 6=46656:=by decide
    omega
   (repeat' (first|refine sx ?_|refine aS fun P9 h9=>?_|refine aB fun P9 _ _ _ _=>?_|refine ybc ?_|(refine s2 ?_ ?_<;>intro h7<;>try omega)));refine zbx (zbd 7 1000 2 47 rfl rfl) ?_;have hz0:vi (s.lo+((0:Nat):Int))=vi s.lo:=by simp
   have hz1:∀q:Nat,vi (s.lo+((q+1:Nat):Int))=vi (s.lo+(q:Int)+1):=fun q=>by rw [show((q+1:Nat):Int)=(q:Int)+1 from by omega,←Int.add_assoc]
   have hu0:rp (zlk ss m i wr sg 0)=[]:=by simp [zlk]
   refine zam (zbr s.lo s.hi).length (fun q=>[(2*2,.av (.ptr 2 0)),(2*2+1,.cells 25 [vi most,.sl 7 (ss.map Slip.row),.sl 5 (ms.map SumR.row)]),(2*3,.av (.ptr 3 0)),(2*3+1,.cells 47 [.sl 1 (il wr),.sl 1 (bl sg)]),
    (2*6,.av (.ptr 6 0)),(2*6+1,.cells 54 s.row),(2*7,.av (.own 1000)),(2*1000+1,.buf 2 47 (rp (zlk ss m i wr sg q))),(2*8,.av (vi (s.lo+(q:Int))))]) ?_ ?_
   ·exact si
   ·intro q hq2;have hUq:=hU q hq2;rcases kae q (zbr s.lo s.hi).length with hlt|hge
    ·have hle:s.lo+(q:Int)≤s.hi:=by omega
     have hdl:decide (s.lo+(q:Int)≤s.hi)=true:=by simpa using hle
     have hlen1:([]:List (List AV)).length+(il wr).length≤1000000000:=by simp;omega
     have hlen2:(([]:List (List AV))++il wr).length+[[vi (s.lo+(q:Int))]].length≤1000000000:=by simp;omega
     have hlen3:([]:List (List AV)).length+(bl sg).length≤1000000000:=by simp;omega
     have hlen4:∀b,(([]:List (List AV))++bl sg).length+[[vb b]].length≤1000000000:=fun b=>by simp;omega
     have hsucc:=z2l ss m i wr sg q (by rw [hg];exact hle);rw [hg] at hsucc;have e1:il (wr++[s.lo+(q:Int)])=([]++il wr)++[[vi (s.lo+(q:Int))]]:=by simp
     have e2:∀b,bl (sg++[b])=([]++bl sg)++[[vb b]]:=fun b=>by simp
     by_cases hk:s.kind=5
     ·have hdk:decide (s.kind=5)=true:=by simpa using hk
      have c1:=ih (i+1) (wr++[s.lo+(q:Int)]) (sg++[false]) (by simp [hw]) (by omega) (by simp;omega);have c2:=ih (i+1) (wr++[s.lo+(q:Int)]) (sg++[true]) (by simp [hw]) (by omega) (by simp;omega);rw [e1,e2] at c1 c2;have hR1:=hR (wr++[s.lo+(q:Int)]) (sg++[false]);have hR2:=hR (wr++[s.lo+(q:Int)]) (sg++[true])
      have hlen5:(rp (zlk ss m i wr sg q)).length+(rp (zhu ss m (i+1) (wr++[s.lo+(q:Int)]) (sg++[false]))).length≤1000000000:=by simp;omega
      have hlen6:(rp (zlk ss m i wr sg q)).length+(rp (zhu ss m (i+1) (wr++[s.lo+(q:Int)]) (sg++[true]))).length≤1000000000:=by simp;omega
      have hlen7:(rp (zlk ss m i wr sg q)++rp (zhu ss m (i+1) (wr++[s.lo+(q:Int)]) (sg++[false]))).length+(rp (zhu ss m (i+1) (wr++[s.lo+(q:Int)]) (sg++[true]))).length≤1000000000:=by simp;omega
      have hlenF:=hlen4 false;have hlenT:=hlen4 true;by_cases hs1:s.signed=1
      ·have hd1:decide (s.signed=1)=true:=by simpa using hs1
       have hd2:decide (s.signed=2)=false:=by simp [hs1]
       have hS:rp (zlk ss m i wr sg (q+1))=rp (zlk ss m i wr sg q)++rp (zhu ss m (i+1) (wr++[s.lo+(q:Int)]) (sg++[true])):=by rw [hsucc];unfold yck;rw [hg];simp [hk,hs1]
       (repeat' (first|refine sx ?_|refine aS fun P9 h9=>?_|refine aB fun P9 _ _ _ _=>?_|refine ybc ?_|(refine s2 ?_ ?_<;>intro h7<;>try omega)));clear hsucc;refine⟨hlt,?_⟩;refine zbg (rn1 1000 82) ?_ rfl rfl;exact sr
      ·have hd1:decide (s.signed=1)=false:=by simpa using hs1
       by_cases hs2:s.signed=2
       ·have hd2:decide (s.signed=2)=true:=by simpa using hs2
        have hS:rp (zlk ss m i wr sg (q+1))=rp (zlk ss m i wr sg q)++rp (zhu ss m (i+1) (wr++[s.lo+(q:Int)]) (sg++[false])):=by rw [hsucc];unfold yck;rw [hg];simp [hk,hs2]
        (repeat' (first|refine sx ?_|refine aS fun P9 h9=>?_|refine aB fun P9 _ _ _ _=>?_|refine ybc ?_|(refine s2 ?_ ?_<;>intro h7<;>try omega)));clear hsucc;refine⟨hlt,?_⟩;refine zbg (rn1 1000 67) ?_ rfl rfl;exact sr
       ·have hd2:decide (s.signed=2)=false:=by simpa using hs2
        have hS:rp (zlk ss m i wr sg (q+1))=(rp (zlk ss m i wr sg q)++rp (zhu ss m (i+1) (wr++[s.lo+(q:Int)]) (sg++[false])))++rp (zhu ss m (i+1) (wr++[s.lo+(q:Int)]) (sg++[true])):=by rw [hsucc];unfold yck;rw [hg];simp [hk,hs1,hs2]
        (repeat' (first|refine sx ?_|refine aS fun P9 h9=>?_|refine aB fun P9 _ _ _ _=>?_|refine ybc ?_|(refine s2 ?_ ?_<;>intro h7<;>try omega)));clear hsucc;refine⟨hlt,?_⟩;refine zbg (rn1 1000 82) ?_ rfl rfl;exact sr
     ·have hdk:decide (s.kind=5)=false:=by simpa using hk
      have hS:rp (zlk ss m i wr sg (q+1))=rp (zlk ss m i wr sg q)++rp (zhu ss m (i+1) (wr++[s.lo+(q:Int)]) sg):=by rw [hsucc];unfold yck;rw [hg,if_pos hk];simp
      have c0:=ih (i+1) (wr++[s.lo+(q:Int)]) sg (by simp [hw]) (by omega) (by omega);rw [e1] at c0;have hR0:=hR (wr++[s.lo+(q:Int)]) sg;have hlen5:(rp (zlk ss m i wr sg q)).length+(rp (zhu ss m (i+1) (wr++[s.lo+(q:Int)]) sg)).length≤1000000000:=by simp;omega
      (repeat' (first|refine sx ?_|refine aS fun P9 h9=>?_|refine aB fun P9 _ _ _ _=>?_|refine ybc ?_|(refine s2 ?_ ?_<;>intro h7<;>try omega)));clear hsucc;refine⟨hlt,?_⟩;refine zbg (rn1 1000 52) ?_ rfl rfl;exact sr
    ·have he:q=(zbr s.lo s.hi).length:=by omega
     subst he;have hdl:decide (s.lo+((zbr s.lo s.hi).length:Int)≤s.hi)=false:=decide_eq_false (by omega);have hfin:=zwv ss m i wr sg;rw [hg] at hfin;(repeat' (first|refine sx ?_|refine aS fun P9 h9=>?_|refine aB fun P9 _ _ _ _=>?_|refine ybc ?_|(refine s2 ?_ ?_<;>intro h7<;>try omega)));refine fe ?_;rw [hfin]
end
section
variable{G:zbf}
attribute [local irreducible] AOp AW ADr AFn ze1 AFt AOpJ
set_option maxRecDepth 20000
set_option maxHeartbeats 8000000
theorem zcr(ss:List Slip)(ms:List SumR)(am:List Int)(n:Nat):zao ss ms am (n+1)=zao ss ms am n++(if zd3 ss am (ms.getD n d5) then [(n:Int)] else []):=by unfold zao;rw [kdp,kch,kbt];congr 1;simp only [kdk,kd0];split<;>simp
theorem zqy(ss:List Slip)(ms:List SumR)(am:List Int)(n:Nat):(zao ss ms am n).length≤n:=by unfold zao;rw [ka6];exact kak (kbc _ _) (by simp)
theorem cri0{P G:Prop}(n:P)(h:Go.Kp.Wr P→G:=by(intro n;first|((with_reducible apply kC);first|exact gB ⟨_,zpg _ _ _ _ _ _ hk (by omega) (by omega) hb,.mk rfl n.p⟩|exact gB ⟨_,zv8 _ _ _,.mk rfl n.p⟩|exact gK n.p|exact gS n.p)|exact⟨_,zpg _ _ _ _ _ _ hk (by omega) (by omega) hb,n.p⟩|exact⟨_,zv8 _ _ _,n.p⟩|exact sk n.p|exact ap n.p)):G:=h ⟨n⟩
theorem ze3(most:Int)(ss:List Slip)(ms:List SumR)(now:List Int)(hn:ss.length≤20)(hm:ms.length≤20)(hl:now.length=ss.length)(hb:∀i,0≤now.getD i 0∧now.getD i 0≤999)(hk0:∀m∈ms,0≤m.kind) :
  AFn (cx G) 62 [bk most ss ms,.sl 1 (il now)] (.sl 1 (il (zan ss ms now))):=by
 refine zag Tryz.func62 rfl Tryz.ntmps62 rfl rfl rfl ?_ rfl
 refine zab fun Q hQ=>?_
 (repeat' (first|refine sx ?_|refine aS fun P9 h9=>?_|refine aB fun P9 _ _ _ _=>?_|refine cri0 ?_|(refine s2 ?_ ?_<;>intro h7<;>try omega)))
 refine zbx (zbd 5 1000 1 3 rfl rfl) ?_
 refine zam ms.length (fun i=>[(2*2,.av (.ptr 2 0)),(2*2+1,.cells 25 [vi most,.sl 7 (ss.map Slip.row),.sl 5 (ms.map SumR.row)]),(2*1,.av (.sl 1 (il now))),(2*5,.av (.own 1000)),(2*1000+1,.buf 1 3 (il (zao ss ms now i))),(2*6,.av (vi i))]) ?_ ?_
 ·exact si
 ·intro i hi;have hwl:=zqy ss ms now i;rcases kae i ms.length with hlt|hge
  ·obtain⟨m,hms⟩:∃m,ms[i]?=some m:=⟨_,kaa hlt⟩;have hrow:(ms.map SumR.row)[i]?=some m.row:=by simp [hms]
   have hil:i<(ms.map SumR.row).length:=by simpa using hlt
   have hg:ms.getD i d5=m:=by simp [hms]
   have hd:decide ((i:Int)<((ms.map SumR.row).length:Int))=true:=by simp;omega
   have hk:=hk0 m (kag hms);have h1000:(il (zao ss ms now i)).length+[[vi (i:Int)]].length≤1000000000:=by simp;omega
   have hf:zd3 ss now m=!decide (m.lo≤zbo ss now m.kind.toNat m.a now.length∧zbo ss now m.kind.toNat m.a now.length≤m.hi):=by rw [hl];rfl
   have hi1:vi ((i+1:Nat):Int)=vi ((i:Int)+1):=by simp
   by_cases hin:m.lo≤zbo ss now m.kind.toNat m.a now.length∧zbo ss now m.kind.toNat m.a now.length≤m.hi
   ·have hdi:decide (m.lo≤zbo ss now m.kind.toNat m.a now.length∧zbo ss now m.kind.toNat m.a now.length≤m.hi)=true:=by simpa using hin
    have hsucc:il (zao ss ms now (i+1))=il (zao ss ms now i):=by rw [zcr,hg,hf,hdi];simp
    (repeat' (first|refine sx ?_|refine aS fun P9 h9=>?_|refine aB fun P9 _ _ _ _=>?_|refine cri0 ?_|(refine s2 ?_ ?_<;>intro h7<;>try omega)));refine⟨hlt,?_⟩;exact si
   ·have hdi:decide (m.lo≤zbo ss now m.kind.toNat m.a now.length∧zbo ss now m.kind.toNat m.a now.length≤m.hi)=false:=by simpa using hin
    have hsucc:il (zao ss ms now (i+1))=il (zao ss ms now i)++[[vi (i:Int)]]:=by rw [zcr,hg,hf,hdi];simp
    (repeat' (first|refine sx ?_|refine aS fun P9 h9=>?_|refine aB fun P9 _ _ _ _=>?_|refine cri0 ?_|(refine s2 ?_ ?_<;>intro h7<;>try omega)));refine⟨hlt,?_⟩;refine zbg (rn1 1000 38) ?_ rfl rfl;exact sr
  ·have he:i=ms.length:=by omega
   subst he;have hd:decide ((ms.length:Int)<((ms.map SumR.row).length:Int))=false:=by simp
   (repeat' (first|refine sx ?_|refine aS fun P9 h9=>?_|refine aB fun P9 _ _ _ _=>?_|refine cri0 ?_|(refine s2 ?_ ?_<;>intro h7<;>try omega)));refine fe ?_;rfl
def zse(ms:List SumR)(l:List Int):Bool:=(List.range l.length).any fun i=>(ms.getD (l.getD i 0).toNat d5).firm
theorem zwh(ms:List SumR)(l:List Int):ybf ms l=!zse ms l:=by
 unfold ybf zse;congr 1;rw [Bool.eq_iff_iff,kaz,kaz];constructor
 ·rintro⟨x,hx,h⟩;obtain⟨i,hi⟩:=kba hx;exact⟨i,ka3.2 (kab.1 hi).1,by simpa [hi] using h⟩
 ·rintro⟨i,hi,h⟩;have hi:=ka3.1 hi;exact⟨l[i],kbf hi,by simpa [hi] using h⟩
theorem zwi(most:Int)(ss:List Slip)(ms:List SumR)(l:List Int)(hl:l.length≤100000)(hin:∀x∈l,0≤x∧x<(ms.length:Int)):AFn (cx G) 85 [bk most ss ms,.sl 1 (il l)] (vb (zse ms l)):=by
 refine zag Tryz.func85 rfl Tryz.ntmps85 rfl rfl rfl ?_ rfl;refine zab fun Q hQ=>?_;(repeat' (first|refine sx ?_|refine aS fun P9 h9=>?_|refine aB fun P9 _ _ _ _=>?_|refine w0 ?_|(refine s2 ?_ ?_<;>intro h7<;>try omega)))
 refine zbe l.length (fun i=>∀j,j<i→(ms.getD (l.getD j 0).toNat d5).firm=false) (fun i=>[(2*2,.av (.ptr 2 0)),(2*2+1,.cells 25 [vi most,.sl 7 (ss.map Slip.row),.sl 5 (ms.map SumR.row)]),(2*1,.av (.sl 1 (il l))),(2*5,.av (vi i))]) (fun j hj=>by omega) ?_ ?_
 ·exact si
 ·intro i hi hP;rcases kae i l.length with hlt|hge
  ·obtain⟨z,hz⟩:∃z,l[i]?=some z:=⟨_,kaa hlt⟩;have hzr:(il l)[i]?=some [vi z]:=zcm hz;have hzl:i<(il l).length:=by simp;omega
   have hgz:l.getD i 0=z:=by simp [hz]
   have hzb:=hin z (kag hz);obtain⟨q,hq⟩:∃q:Nat,z=(q:Int):=⟨z.toNat,by omega⟩;obtain⟨m,hms⟩:∃m,ms[q]?=some m:=⟨_,kaa (by omega)⟩;have hrow:(ms.map SumR.row)[q]?=some m.row:=by simp [hms]
   have hil:q<(ms.map SumR.row).length:=by simp;omega
   have hg:(ms.getD (l.getD i 0).toNat d5).firm=m.firm:=by rw [hgz,hq];simp [hms]
   have hd:decide ((i:Int)<((il l).length:Int))=true:=by simp;omega
   rcases ka1 m.firm with hf|hf
   ·have hF:zse ms l=true:=kaz.2 ⟨i,ka3.2 hlt,by rw [hg,hf]⟩;(repeat' (first|refine sx ?_|refine aS fun P9 h9=>?_|refine aB fun P9 _ _ _ _=>?_|refine w0 ?_|(refine s2 ?_ ?_<;>intro h7<;>try omega)));refine fe ?_;rw [hF]
   ·(repeat' (first|refine sx ?_|refine aS fun P9 h9=>?_|refine aB fun P9 _ _ _ _=>?_|refine w0 ?_|(refine s2 ?_ ?_<;>intro h7<;>try omega)));refine⟨hlt,fun j hj=>?_,?_⟩
    ·rcases kae j i with h|h
     ·exact hP j h
     ·have:j=i:=by omega
      subst this;rw [hg,hf]
    ·exact si
  ·have he:i=l.length:=by omega
   subst he;have hd:decide ((l.length:Int)<((il l).length:Int))=false:=by simp
   have hF:zse ms l=false:=by rw [ka8];intro h;obtain⟨j,hj,h⟩:=kaz.1 h;rw [hP j (ka3.1 hj)] at h;cases h
   (repeat' (first|refine sx ?_|refine aS fun P9 h9=>?_|refine aB fun P9 _ _ _ _=>?_|refine w0 ?_|(refine s2 ?_ ?_<;>intro h7<;>try omega)));refine fe ?_;rw [hF]
def zrm(ss:List Slip)(wr:List Int)(sg:List Bool)(i:Nat):Bool :=
 decide ((ss.getD i d7).lo≤wr.getD i 0∧wr.getD i 0≤(ss.getD i d7).hi)&&(!decide ((ss.getD i d7).kind=5)||decide ((ss.getD i d7).signed=0)||decide ((ss.getD i d7).signed=1) == sg.getD (zae ss i).length false)
def zxr(ss:List Slip)(wr:List Int)(sg:List Bool):Bool:=(List.range ss.length).all (zrm ss wr sg)
theorem ybb{P G:Prop}(n:P)(h:Go.Kp.Wr P→G:=by(intro n;first|((with_reducible apply kC);first|exact gB ⟨_,zv8 _ _ _,.mk rfl n.p⟩|exact gK n.p|exact gS n.p)|exact⟨_,zv8 _ _ _,n.p⟩|exact sk n.p|exact ap n.p)):G:=h ⟨n⟩
theorem zn9(most:Int)(ss:List Slip)(ms:List SumR)(wr:List Int)(sg:List Bool)(hn:ss.length≤20)(hw:wr.length=ss.length)(hsg:sg.length=(zae ss ss.length).length) :
  AFn (cx G) 157 [bk most ss ms,.agg [.sl 1 (il wr),.sl 1 (bl sg)]] (vb (zxr ss wr sg)):=by
 refine zag Tryz.func157 rfl Tryz.ntmps157 rfl rfl rfl ?_ rfl
 refine zab fun Q hQ=>?_
 (repeat' (first|refine sx ?_|refine aS fun P9 h9=>?_|refine aB fun P9 _ _ _ _=>?_|refine ybb ?_|(refine s2 ?_ ?_<;>intro h7<;>try omega)))
 refine zbe ss.length (fun i=>∀j,j<i→zrm ss wr sg j=true) (fun i=>[(2*2,.av (.ptr 2 0)),(2*2+1,.cells 25 [vi most,.sl 7 (ss.map Slip.row),.sl 5 (ms.map SumR.row)]),(2*3,.av (.ptr 3 0)),(2*3+1,.cells 47 [.sl 1 (il wr),.sl 1 (bl sg)]),(2*5,.av (vi ((zae ss i).length:Int))),(2*6,.av (vi i))]) (fun j hj=>by omega) ?_ ?_
 ·exact si
 ·intro i hi hP;rcases kae i ss.length with hlt|hge
  ·obtain⟨s,hs⟩:∃s,ss[i]?=some s:=⟨_,kaa hlt⟩;have hrow:(ss.map Slip.row)[i]?=some s.row:=by simp [hs]
   have hil:i<(ss.map Slip.row).length:=by simpa using hlt
   have hg:ss.getD i d7=s:=by simp [hs]
   have hd:decide ((i:Int)<((ss.map Slip.row).length:Int))=true:=by simp;omega
   obtain⟨x,hx⟩:∃x,wr[i]?=some x:=⟨_,kaa (by omega)⟩;have hxr:(il wr)[i]?=some [vi x]:=zcm hx;have hxl:i<(il wr).length:=by simp;omega
   have hgx:wr.getD i 0=x:=by simp [hx]
   have hfl:=zfi ss i;have hi1:vi ((i+1:Nat):Int)=vi ((i:Int)+1):=by simp
   have hS:zrm ss wr sg i=(decide (s.lo≤x∧x≤s.hi)&&(!decide (s.kind=5)||decide (s.signed=0)||decide (s.signed=1) == sg.getD (zae ss i).length false)):=by unfold zrm;rw [hg,hgx]
   have hbad:zrm ss wr sg i=false→zxr ss wr sg=false:=fun h=>by rw [ka8];intro hc;have:=kar.1 hc i (ka3.2 hlt);rw [h] at this;cases this
   have hgood:zrm ss wr sg i=true→∀j,j<i+1→zrm ss wr sg j=true:=fun h j hj=>by
    rcases kae j i with h1|h1
    ·exact hP j h1
    ·have:j=i:=by omega
     subst this;exact h
   by_cases hin:s.lo≤x∧x≤s.hi
   ·have hdi:decide (s.lo≤x∧x≤s.hi)=true:=by simpa using hin
    by_cases hk:s.kind=5
    ·have hdk:decide (s.kind=5)=true:=by simpa using hk
     have hfs:(zae ss (i+1)).length=(zae ss i).length+1:=by rw [zbn,hg,if_pos hk];simp
     have hf1:vi ((zae ss (i+1)).length:Int)=vi (((zae ss i).length:Int)+1):=by rw [hfs];simp
     have hmono:=zmx ss (a:=i+1) (b:=ss.length) (by omega);obtain⟨y,hy⟩:∃y,sg[(zae ss i).length]?=some y:=⟨_,kaa (by omega)⟩;have hyr:(bl sg)[(zae ss i).length]?=some [vb y]:=z8h hy;have hyl:(zae ss i).length<(bl sg).length:=by simp;omega
     have hgy:sg.getD (zae ss i).length false=y:=by simp [hy]
     rw [hgy] at hS;by_cases hs0:s.signed=0
     ·have hd0:decide (s.signed=0)=true:=by simpa using hs0
      (repeat' (first|refine sx ?_|refine aS fun P9 h9=>?_|refine aB fun P9 _ _ _ _=>?_|refine ybb ?_|(refine s2 ?_ ?_<;>intro h7<;>try omega)));refine⟨hlt,hgood (by rw [hS];simp [hdi,hdk,hd0]),?_⟩;exact si
     ·have hd0:decide (s.signed=0)=false:=by simpa using hs0
      cases hb:(decide (s.signed=1) == y) with
      | true =>(repeat' (first|refine sx ?_|refine aS fun P9 h9=>?_|refine aB fun P9 _ _ _ _=>?_|refine ybb ?_|(refine s2 ?_ ?_<;>intro h7<;>try omega)));refine⟨hlt,hgood (by rw [hS];simp [hdi,hdk,hd0,hb]),?_⟩;exact si
      | false =>(repeat' (first|refine sx ?_|refine aS fun P9 h9=>?_|refine aB fun P9 _ _ _ _=>?_|refine ybb ?_|(refine s2 ?_ ?_<;>intro h7<;>try omega)));refine fe ?_;rw [hbad (by rw [hS];simp [hdi,hdk,hd0,hb])]
    ·have hdk:decide (s.kind=5)=false:=by simpa using hk
     have hfs:(zae ss (i+1)).length=(zae ss i).length:=by rw [zbn,hg,if_neg hk];simp
     (repeat' (first|refine sx ?_|refine aS fun P9 h9=>?_|refine aB fun P9 _ _ _ _=>?_|refine ybb ?_|(refine s2 ?_ ?_<;>intro h7<;>try omega)));refine⟨hlt,hgood (by rw [hS];simp [hdi,hdk]),?_⟩;exact si
   ·have hdi:decide (s.lo≤x∧x≤s.hi)=false:=by simpa using hin
    (repeat' (first|refine sx ?_|refine aS fun P9 h9=>?_|refine aB fun P9 _ _ _ _=>?_|refine ybb ?_|(refine s2 ?_ ?_<;>intro h7<;>try omega)));refine fe ?_;rw [hbad (by rw [hS];simp [hdi])]
  ·have he:i=ss.length:=by omega
   subst he;have hd:decide ((ss.length:Int)<((ss.map Slip.row).length:Int))=false:=by simp
   have hF:zxr ss wr sg=true:=kar.2 fun j hj=>hP j (ka3.1 hj);(repeat' (first|refine sx ?_|refine aS fun P9 h9=>?_|refine aB fun P9 _ _ _ _=>?_|refine ybb ?_|(refine s2 ?_ ?_<;>intro h7<;>try omega)));refine fe ?_;rw [hF]
end
section
variable{G:zbf}
attribute [local irreducible] AOp AW ADr AFn ze1 AFt AOpJ
set_option maxRecDepth 20000
set_option maxHeartbeats 8000000
theorem z9u{E:Env}{w:World}{xs:List AV}{v:Value}(h:Rep E w (.agg xs) v):∃vs,v=.agg vs.toArray∧yf1 E w xs vs:=by
 cases h with
 | agg xs vs hl h=>exact⟨vs,rfl,hl,h⟩
theorem z4u{E:Env}{w:World}{xs:List AV}{vs:List Value}(h:yf1 E w xs vs):Rep E w (.agg xs) (.agg vs.toArray):=.agg xs vs h.1 h.2
theorem zw4{l:List Int}(h:zhn l){x:Int}(hx:0≤x∧x≤999):zhn (l++[x]):=fun i=>by
 rcases kdd i l.length with h1|h1|h1
 ·have:=h i;simpa [kai,kam h1] using this
 ·subst h1;simpa using hx
 ·have:(l++[x])[i]?=none:=kay (by simp;omega);simp [kai,this]
def zc7(ss:List Slip)(p:zfo):List Int:=(zdv ss p.1 p.2 ss.length).1
theorem zb6(ss:List Slip)(p:zfo):(zc7 ss p).length=ss.length:=zk3 _ _ _ _
theorem zma(ss:List Slip)(wr:List Int)(sg:List Bool)(h:zhn wr):∀n,zhn (zdv ss wr sg n).1
 | 0=>fun i=>by simp [zdv]
 | n+1=>by
   have ih:=zma ss wr sg h n;have h1:=zw4 ih (h n);simp only [zdv];split
   ·split
    ·exact zm8 (zm8 h1 (by decide) n) (h n) _
    ·exact zm8 h1 (by decide) n
   ·exact h1
def zdk(most:Int)(ss:List Slip)(ms:List SumR)(p:zfo):Bool:=zxr ss p.1 p.2&&zf9 ss (zc7 ss p)&&decide (((zan ss ms (zc7 ss p)).length:Int)≤most)&&!zse ms (zan ss ms (zc7 ss p))
theorem crj0{P G:Prop}(n:P)(h:Go.Kp.Wr P→G:=by(intro n;first|((with_reducible apply kC);first|exact gB ⟨_,zey _ _ _ _ _ hn hok hw hsg,.mk rfl n.p⟩|exact gB ⟨_,ze3 most ss ms (zc7 ss (wr,sg)) hn hm (zb6 _ _) hab hk0,.mk rfl n.p⟩|exact gB ⟨_,zn9 _ _ _ _ _ hn hw hsg,.mk rfl n.p⟩|exact gB ⟨_,zll most ss ms (zc7 ss (wr,sg)) hn (by rw [zb6];exact kac _) hab,.mk rfl n.p⟩|exact gB ⟨_,zwi _ _ _ _ hwl (zd9 _ _ _),.mk rfl n.p⟩|exact gK n.p|exact gS n.p)|exact⟨_,zey _ _ _ _ _ hn hok hw hsg,n.p⟩|exact⟨_,ze3 most ss ms (zc7 ss (wr,sg)) hn hm (zb6 _ _) hab hk0,n.p⟩|exact⟨_,zn9 _ _ _ _ _ hn hw hsg,n.p⟩|exact⟨_,zll most ss ms (zc7 ss (wr,sg)) hn (by rw [zb6];exact kac _) hab,n.p⟩|exact⟨_,zwi _ _ _ _ hwl (zd9 _ _ _),n.p⟩|exact sk n.p|exact ap n.p)):G:=h ⟨n⟩
theorem zw5(most:Int)(ss:List Slip)(ms:List SumR)(wr:List Int)(sg:List Bool)(hn:ss.length≤20)(hm:ms.length≤20)(hok:∀(i:Nat) (s:Slip),ss[i]?=some s→zne ss i s)(hw:wr.length=ss.length)(hsg:sg.length=(zae ss ss.length).length)(hwr:zhn wr)(hk0:∀m∈ms,0≤m.kind) :
  AFn (cx G) 92 [bk most ss ms,.agg [.sl 1 (il wr),.sl 1 (bl sg)]] (vb (zdk most ss ms (wr,sg))):=by
 refine zag Tryz.func92 rfl Tryz.ntmps92 rfl rfl rfl ?_ rfl
 refine zab fun Q hQ=>?_
 have hab:zhn (zc7 ss (wr,sg)):=zma ss wr sg hwr ss.length
 have hwl:(zan ss ms (zc7 ss (wr,sg))).length≤100000:=by have:=zd8 ss ms (zc7 ss (wr,sg));omega
 have hl:(il (zan ss ms (zc7 ss (wr,sg)))).length=(zan ss ms (zc7 ss (wr,sg))).length:=by simp
 unfold zdk at hQ
 rw [←hl] at hQ
 (repeat' (first|refine sx ?_|refine aS fun P9 h9=>?_|refine aB fun P9 _ _ _ _=>?_|refine crj0 ?_|(refine s2 ?_ ?_<;>intro h7<;>try omega)))
 all_goals refine fe ?_
 all_goals refine congrArg vb ?_
 all_goals grind
def zds(ss:List Slip):List zfo:=zhu ss ss.length 0 [] []
def zaj(most:Int)(ss:List Slip)(ms:List SumR):List zfo:=(zds ss).filter (zdk most ss ms)
theorem zqf(ss:List Slip)(hlo:∀s∈ss,0≤s.lo∧s.hi≤999):∀(m i:Nat) (wr:List Int) (sg:List Bool),i+m=ss.length→wr.length=i→sg.length=(zae ss i).length→zhn wr→∀p∈zhu ss m i wr sg,p.1.length=ss.length∧p.2.length=(zae ss ss.length).length∧zhn p.1
 | 0,i,wr,sg,hi,h1,h2,h3,p,hp=>by
   simp only [zhu,kcg] at hp;have:i=ss.length:=by omega
   subst this hp;exact⟨h1,h2,h3⟩
 | m+1,i,wr,sg,hi,h1,h2,h3,p,hp=>by
   simp only [zhu,kcq] at hp;obtain⟨n,hn,hp⟩:=hp;have hil:i<ss.length:=by omega
   have hs:=hlo ss[i] (kbf hil);have hg:ss.getD i d7=ss[i]:=by simp [hil]
   have hnr:0≤n∧n≤999:=by simp only [zbr,kav,ka3,hg] at hn;obtain⟨j,hj,rfl⟩:=hn;omega
   have hf:=zbn ss i;split at hp
   ·rename_i hk;refine zqf ss hlo m (i+1) _ _ (by omega) (by simp [h1]) ?_ (zw4 h3 hnr) p hp;rw [hf,if_neg hk];simpa using h2
   ·rename_i hk;have hk:=Decidable.not_not.1 hk;have hl:∀b,(sg++[b]).length=(zae ss (i+1)).length:=fun b=>by rw [hf,if_pos hk];simp [h2]
    rcases kax.1 hp with hp|hp
    ·split at hp
     ·exact zqf ss hlo m (i+1) _ _ (by omega) (by simp [h1]) (hl _) (zw4 h3 hnr) p hp
     ·cases hp
    ·split at hp
     ·exact zqf ss hlo m (i+1) _ _ (by omega) (by simp [h1]) (hl _) (zw4 h3 hnr) p hp
     ·cases hp
theorem zuu{ss:List Slip}(hlo:∀s∈ss,0≤s.lo∧s.hi≤999):∀p∈zds ss,p.1.length=ss.length∧p.2.length=(zae ss ss.length).length∧zhn p.1 :=
 zqf ss hlo ss.length 0 [] [] (by omega) rfl rfl fun i=>by simp
theorem Good.can{most:Int}{ss:List Slip}{ms:List SumR}(h:Good most ss ms):∀s∈ss,(0≤s.lo∧s.hi≤999)∧s.lo≤s.hi∧s.hi-s.lo<3:=fun s hs=>by obtain⟨i,hi⟩:=kba hs;have:=(h.slip i s hi).amt;omega
theorem Good.k0{most:Int}{ss:List Slip}{ms:List SumR}(h:Good most ss ms):∀m∈ms,0≤m.kind:=fun m hm=>(h.sum m hm).1.1
theorem zqn{most:Int}{ss:List Slip}{ms:List SumR}(h:Good most ss ms):(zds ss).length≤46656:=by
 have h1:=zhi ss h.h3 ss.length 0 [] [];have h2:6 ^ ss.length≤6 ^ 6:=kbi (by decide) h.nss;have:6 ^ 6=46656:=by decide
 unfold zds;omega
theorem zjl{most:Int}{ss:List Slip}{ms:List SumR}(h:Good most ss ms):(zaj most ss ms).length≤46656:=kak (kbc _ _) (zqn h)
theorem zd5{most:Int}{ss:List Slip}{ms:List SumR}(h:Good most ss ms){p:zfo}(hp:p∈zaj most ss ms):p.1.length=ss.length∧p.2.length=(zae ss ss.length).length∧zhn p.1:=zuu h.lo p (kbw.1 hp).1
theorem zri{E:Env}{w:World}{vs:List Value}{b:AV}(h:yf1 E w [b,.agg [.val (.slice none 0 0),.val (.slice none 0 0)]] vs):yf1 E w [b,.agg [.sl 1 (il []),.sl 1 (bl [])]] vs:=by
 obtain⟨v,us,rfl,h1,h2⟩:=h.inv;obtain⟨v2,us,rfl,h3,h4⟩:=h2.inv;refine h1 |> fun h1=>yf1.cons h1 (yf1.cons ?_ h4)
 obtain⟨ws,rfl,h5⟩:=z9u h3;obtain⟨u1,ws,rfl,h6,h7⟩:=h5.inv;obtain⟨u2,ws,rfl,h8,h9⟩:=h7.inv;rw [h6.val_eq,h8.val_eq];exact z4u ((h9.cons (.nil 1)).cons (.nil 1))
theorem crj1{P G:Prop}(n:P)(h:Go.Kp.Wr P→G:=by(intro n;first|((with_reducible apply kC);first|exact gB ⟨_,zw6 (yeh most ss ms hg.nss hg.can ss.length 0 [] [] rfl (by omega) (kac _)) fun E w vs h=>zri h,.mk rfl n.p⟩|exact gK n.p|exact gS n.p)|exact⟨_,zw6 (yeh most ss ms hg.nss hg.can ss.length 0 [] [] rfl (by omega) (kac _)) fun E w vs h=>zri h,n.p⟩|exact sk n.p|exact ap n.p)):G:=h ⟨n⟩
theorem zqg{most:Int}{ss:List Slip}{ms:List SumR}(hg:Good most ss ms):AFn (cx G) 83 [bk most ss ms] (.sl 2 (rp (zds ss))):=by refine zag Tryz.func83 rfl Tryz.ntmps83 rfl rfl rfl ?_ rfl;refine zab fun Q hQ=>?_;(repeat' (first|refine sx ?_|refine aS fun P9 h9=>?_|refine aB fun P9 _ _ _ _=>?_|refine crj1 ?_|(refine s2 ?_ ?_<;>intro h7<;>try omega)));refine fe ?_;rfl
theorem zrg{l:List zfo}{i:Nat}{p:zfo}(h:l[i]?=some p):(rp l)[i]?=some [.sl 1 (il p.1),.sl 1 (bl p.2)]:=by simp [h]
theorem crj2{P G:Prop}(n:P)(h:Go.Kp.Wr P→G:=by(intro n;first|((with_reducible apply kC);first|exact gB ⟨_,zqg hg,.mk rfl n.p⟩|exact gB ⟨_,zw5 most ss ms _ _ (by omega) (by omega) hg.slip ho.1 ho.2.1 ho.2.2 hg.k0,.mk rfl n.p⟩|exact gK n.p|exact gS n.p)|exact⟨_,zqg hg,n.p⟩|exact⟨_,zw5 most ss ms _ _ (by omega) (by omega) hg.slip ho.1 ho.2.1 ho.2.2 hg.k0,n.p⟩|exact sk n.p|exact ap n.p)):G:=h ⟨n⟩
theorem zro{most:Int}{ss:List Slip}{ms:List SumR}(hg:Good most ss ms):AFn (cx G) 28 [bk most ss ms] (.sl 2 (rp (zaj most ss ms))):=by
 refine zag Tryz.func28 rfl Tryz.ntmps28 rfl rfl rfl ?_ rfl;refine zab fun Q hQ=>?_;have hn6:=hg.nss;have hm5:=hg.nms;have hal:=zqn hg;(repeat' (first|refine sx ?_|refine aS fun P9 h9=>?_|refine aB fun P9 _ _ _ _=>?_|refine crj2 ?_|(refine s2 ?_ ?_<;>intro h7<;>try omega)));refine zbx (zbd 4 1000 2 47 rfl rfl) ?_
 refine zam (zds ss).length (fun i=>[(2*1,.av (.ptr 1 0)),(2*1+1,.cells 25 [vi most,.sl 7 (ss.map Slip.row),.sl 5 (ms.map SumR.row)]),(2*3,.av (.sl 2 (rp (zds ss)))),(2*4,.av (.own 1000)),(2*1000+1,.buf 2 47 (rp (((zds ss).take i).filter (zdk most ss ms)))),(2*5,.av (vi i))]) ?_ ?_
 ·exact si
 ·intro i hi;rcases kae i (zds ss).length with hlt|hge
  ·obtain⟨⟨wr,sg⟩,hp⟩:∃p,(zds ss)[i]?=some p:=⟨_,kaa hlt⟩;have hrow:=zrg hp;have hil:i<(rp (zds ss)).length:=by simpa using hlt
   have ho:=zuu hg.lo _ (kag hp);have hd:decide ((i:Int)<((rp (zds ss)).length:Int))=true:=decide_eq_true (by simp;omega);have hi1:vi ((i+1:Nat):Int)=vi ((i:Int)+1):=by simp
   have hfl:=kbc (zdk most ss ms) ((zds ss).take i);have htl:((zds ss).take i).length≤46656:=by simp;omega
   have h1000:(rp (((zds ss).take i).filter (zdk most ss ms))).length+[[AV.sl 1 (il wr),AV.sl 1 (bl sg)]].length≤1000000000:=by simp only [rp,ka6,kbo,kbv];omega
   rcases ka1 (zdk most ss ms (wr,sg)) with ha|ha
   ·have hsucc:rp (((zds ss).take (i+1)).filter (zdk most ss ms))=rp (((zds ss).take i).filter (zdk most ss ms))++[[AV.sl 1 (il wr),AV.sl 1 (bl sg)]]:=by
     rw [kb8,hp];simp [ha]
    (repeat' (first|refine sx ?_|refine aS fun P9 h9=>?_|refine aB fun P9 _ _ _ _=>?_|refine crj2 ?_|(refine s2 ?_ ?_<;>intro h7<;>try omega)));refine⟨hlt,?_⟩;refine zbg (rn1 1000 26) ?_ rfl rfl;exact sr
   ·have hsucc:rp (((zds ss).take (i+1)).filter (zdk most ss ms))=rp (((zds ss).take i).filter (zdk most ss ms)):=by
     rw [kb8,hp];simp [ha]
    (repeat' (first|refine sx ?_|refine aS fun P9 h9=>?_|refine aB fun P9 _ _ _ _=>?_|refine crj2 ?_|(refine s2 ?_ ?_<;>intro h7<;>try omega)));refine⟨hlt,?_⟩;exact si
  ·have he:i=(zds ss).length:=by omega
   subst he;have hd:decide (((zds ss).length:Int)<((rp (zds ss)).length:Int))=false:=decide_eq_false (by simp);(repeat' (first|refine sx ?_|refine aS fun P9 h9=>?_|refine aB fun P9 _ _ _ _=>?_|refine crj2 ?_|(refine s2 ?_ ?_<;>intro h7<;>try omega)));refine fe ?_;rw [kdl];rfl
def zcl(most:Int)(ss:List Slip)(ms:List SumR)(own:Int):Int:=if zak most ss ms≠0 then zak most ss ms else if own≠0 then own else if zaj most ss ms=[] then 9 else 0
end
end Go.Ab.J
