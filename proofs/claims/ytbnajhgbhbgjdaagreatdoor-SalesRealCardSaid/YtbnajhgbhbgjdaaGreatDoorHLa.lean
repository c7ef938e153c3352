/- Pieces of a law about sales. Conditions: none. -/
import Derived.Test.YtbnajhgbhbgjdaaGreatDoorZJ
import Derived.Test.YtbnajhgbhbgjdaaGreatDoorZu
import Derived.AtR
import Derived.Calls
import Derived.Conc.AtomicLaws2
import Derived.Conc.Beside
import Derived.Conc.ClockLaws
import Derived.Conc.CompanyDraw
import Derived.Conc.CompanyMem
import Derived.Conc.HoldsTime
import Derived.Conc.LockJoin
import Derived.Conc.MarkLaws
import Derived.Conc.MuSpec
import Derived.Conc.MuStops
import Derived.Conc.Own
import Derived.Conc.Starve
import Derived.Conc.WgArith
import Derived.Great.BuildSlice
import Derived.Great.FillDense
import Derived.Laws.OwnMore
import Derived.Laws.Sem
import Derived.LoopNIn
import Derived.MapKept
import Derived.Maps.AppendAt
import Derived.OwnWalkIn
import Derived.RangeFuncBound
import Derived.RangeFuncCalls
import Derived.RangeFuncLeaves
import Derived.RangeFuncNested
import Derived.RangeFuncRecord
import Derived.Shelf.Abstract
import Derived.TacticsInMore
import Derived.Test.YtbnajhgbhbgjdaaGreatDoorProg
import Derived.WalkKit
namespace Go.Ab.J
open Go Go.Proofs Go.Kp
section
variable{G:zbf}
attribute [local irreducible] AOp AW ADr AFn ze1 AFt AOpJ
set_option maxRecDepth 20000
set_option maxHeartbeats 8000000
theorem crc0{P G:Prop}(n:P)(h:Wr P->G:=by(intro n;first|((with_reducible apply kC);first|exact gB ⟨_,zjr _,.mk rfl n.p⟩|exact gK n.p|exact gS n.p)|exact⟨_,zjr _,n.p⟩|exact sk n.p|exact ap n.p)):G:=h ⟨n⟩
theorem z7t(s:Slip)(k:Nat)(a:Int):AFn (cx G) 51 [.agg s.row,vi k,vi a] (vi (s.part k a)):=by
 refine aby Tryz.func51 Tryz.ntmps51 λQ hQ=>?_;have hk:k=0\/k=1\/k=2\/k=3\/4<=k:=oc
 rcases hk with rfl|rfl|rfl|rfl|hk;case inr.inr.inr.inr =>
  have h0:decide ((k:Int)=0)=false:=by simp;omega
  have h1:decide ((k:Int)=1)=false:=by simp;omega
  have h2:decide ((k:Int)=2)=false:=by simp;omega
  have h3:decide ((k:Int)=3)=false:=by simp;omega
  have hp:s.part k a=sgn (s.kind=2) False:=by obtain⟨m,rfl⟩:∃m,k=m+4:=⟨k-4,oc⟩;rfl
  (repeat' (first|refine sx ?_|(refine aZ ?_;intros)|refine crc0 ?_|(refine s2 ?_ ?_<;>intro h7<;>try omega)));all_goals refine fe ?_
  all_goals refine congrArg vi ?_
  all_goals rw [hp]
  all_goals unfold sgn
  all_goals simp_all
 all_goals (repeat' (first|refine sx ?_|(refine aZ ?_;intros)|refine crc0 ?_|(refine s2 ?_ ?_<;>intro h7<;>try omega)))
 all_goals refine fe ?_
 all_goals refine congrArg vi ?_
 all_goals simp only [Slip.part]
 all_goals unfold sgn
 all_goals grind
end
section
variable{G:zbf}
attribute [local irreducible] AOp AW ADr AFn ze1 AFt AOpJ
set_option maxRecDepth 20000
set_option maxHeartbeats 8000000
theorem z8h{l:List Bool}{i:Nat}{x:Bool}(h:l[i]?=some x):(bl l)[i]?=some [vb x]:=by simp [h]
theorem yal{l:List Int}{i:Nat}(h:l.length=i)(r:List AV):(il l++[r])[i]?=some r:=by subst h;simp
def zdv(ss:List Slip)(wr:List Int)(sg:List Bool):Nat->List Int×Nat
 | 0=>([],0)
 | n+1=>if (ss.getD n d7).kind=5 then
    (if sg.getD (zdv ss wr sg n).2 false then (((zdv ss wr sg n).1++[wr.getD n 0]).set n 0).set (ss.getD n d7).for_.toNat (wr.getD n 0) else ((zdv ss wr sg n).1++[wr.getD n 0]).set n 0,(zdv ss wr sg n).2+1)
   else ((zdv ss wr sg n).1++[wr.getD n 0],(zdv ss wr sg n).2)
theorem zk3(ss:List Slip)(wr:List Int)(sg:List Bool):∀n,(zdv ss wr sg n).1.length=n
 | 0=>rfl
 | n+1=>by
   have:=zk3 ss wr sg n;simp only [zdv];split
   .split<;>simp [this]
   .simp [this]
theorem zpp(ss:List Slip)(wr:List Int)(sg:List Bool):∀n,(zdv ss wr sg n).2=(zae ss n).length
 | 0=>rfl
 | n+1=>by have:=zpp ss wr sg n;rw [zbn];simp only [zdv];split<;>simp [this]
theorem zmx(ss:List Slip){a b:Nat}(h:a<=b):(zae ss a).length<=(zae ss b).length:=by
 induction h with
 | refl=>exact kac _
 | step h ih=>rw [zbn];simp only [kbx];omega
theorem erd0{G:Prop}(h:G:=by((repeat' (first|refine sx ?_|(refine aZ ?_;intros)|refine w0 ?_|fail));refine⟨hlt,?_⟩;refine zbg (rn1 1000 22) ?_ rfl rfl;exact sr)):G:=h
theorem zey(most:Int)(ss:List Slip)(ms:List SumR)(wr:List Int)(sg:List Bool)(hn:ss.length<=20)(hok:∀(i:Nat) (s:Slip),ss[i]?=some s->zne ss i s)(hw:wr.length=ss.length)(hsg:sg.length=(zae ss ss.length).length) :
  AFn (cx G) 67 [bk most ss ms,.agg [.sl 1 (il wr),.sl 1 (bl sg)]] (.sl 1 (il (zdv ss wr sg ss.length).1)):=by
 refine aby Tryz.func67 Tryz.ntmps67 λQ hQ=>?_
 (repeat' (first|refine sx ?_|(refine aZ ?_;intros)|refine w0 ?_|fail))
 refine zbx (zbd 5 1000 1 3 rfl rfl) ?_
 refine zam ss.length (λi=>[(2*2,.av (.ptr 2 0)),(2*2+1,.cells 25 [vi most,.sl 7 (ss.map Slip.row),.sl 5 (ms.map SumR.row)]),(2*3,.av (.ptr 3 0)),(2*3+1,.cells 45 [.sl 1 (il wr),.sl 1 (bl sg)]),
  (2*5,.av (.own 1000)),(2*1000+1,.buf 1 3 (il (zdv ss wr sg i).1)),(2*6,.av (vi ((zdv ss wr sg i).2:Int))),(2*7,.av (vi i))]) ?_ ?_
 .exact si
 .intro i hi;have hlen:=zk3 ss wr sg i;have hilen:(il (zdv ss wr sg i).1).length=i:=by simp [hlen]
  have hfx:=zpp ss wr sg i;rcases kae i ss.length with hlt|hge
  .obtain⟨s,hs⟩:∃s,ss[i]?=some s:=⟨_,kaa hlt⟩;have hrow:(ss.map Slip.row)[i]?=some s.row:=by simp [hs]
   have hil:i<(ss.map Slip.row).length:=oa hlt
   have hg:ss.getD i d7=s:=by simp [hs]
   have hd:decide ((i:Int)<((ss.map Slip.row).length:Int))=true:=by simp;omega
   obtain⟨x,hx⟩:∃x,wr[i]?=some x:=⟨_,kaa oc⟩;have hxr:(il wr)[i]?=some [vi x]:=zcm hx;have hxl:i<(il wr).length:=by simp;omega
   have hgx:wr.getD i 0=x:=by simp [hx]
   have h1000:(il (zdv ss wr sg i).1).length+1<=1000000000:=oc
   by_cases hk:s.kind=5
   .have hdk:decide (s.kind=5)=true:=oa hk
    have hf5:=(hok i s hs).for5 hk;obtain⟨f,hf⟩:∃f:Nat,s.for_=(f:Int):=⟨s.for_.toNat,oc⟩;have hfi:f<i:=oc
    have hfl:(zae ss (i+1)).length=(zae ss i).length+1:=by rw [zbn,hg,if_pos hk];simp
    have hmono:=zmx ss (a:=i+1) (b:=ss.length) oc;obtain⟨y,hy⟩:∃y,sg[(zdv ss wr sg i).2]?=some y:=⟨_,kaa oc⟩;have hyr:(bl sg)[(zdv ss wr sg i).2]?=some [vb y]:=z8h hy;have hyl:(zdv ss wr sg i).2<(bl sg).length:=by simp;omega
    have hgy:sg.getD (zdv ss wr sg i).2 false=y:=by simp [hy]
    have hf20:(zdv ss wr sg i).2<20:=by have:=zfi ss i;omega
    have hget:(il (zdv ss wr sg i).1++[[vi x]])[i]?=some [vi x]:=yal hlen _;have hgl:i<(il (zdv ss wr sg i).1++[[vi x]]).length:=by simp [hlen]
    have hfn:(zdv ss wr sg (i+1)).2=(zdv ss wr sg i).2+1:=by simp only [zdv];rw [hg,if_pos hk]
    have hfc:vi ((zdv ss wr sg (i+1)).2:Int)=vi (((zdv ss wr sg i).2:Int)+1):=by rw [hfn];simp
    cases y with
    | false =>
      have hsucc:il (zdv ss wr sg (i+1)).1=(il (zdv ss wr sg i).1++[[vi x]]).set i [vi 0]:=by simp only [zdv];rw [hg,if_pos hk,hgx,hgy];simp
      exact erd0
    | true =>
      have hsucc:il (zdv ss wr sg (i+1)).1=((il (zdv ss wr sg i).1++[[vi x]]).set i [vi 0]).set f [vi x]:=by simp only [zdv];rw [hg,if_pos hk,hgx,hgy,hf];simp
      obtain⟨z,hz⟩:∃z,(zdv ss wr sg i).1[f]?=some z:=⟨_,kaa oc⟩;have hget2:((il (zdv ss wr sg i).1++[[vi x]]).set i [vi 0])[f]?=some [vi z]:=by rw [kdg oc,kam oc,zcm hz]
      have hgl2:f<((il (zdv ss wr sg i).1++[[vi x]]).set i [vi 0]).length:=by simp [hlen];omega
      exact erd0
   .have hdk:decide (s.kind=5)=false:=oa hk
    have hsucc:il (zdv ss wr sg (i+1)).1=il (zdv ss wr sg i).1++[[vi x]]:=by simp only [zdv];rw [hg,if_neg hk,hgx];simp
    have hfn:(zdv ss wr sg (i+1)).2=(zdv ss wr sg i).2:=by simp only [zdv];rw [hg,if_neg hk]
    exact erd0
  .have he:i=ss.length:=oc
   subst he;have hd:decide ((ss.length:Int)<((ss.map Slip.row).length:Int))=false:=od
   (repeat' (first|refine sx ?_|(refine aZ ?_;intros)|refine w0 ?_|fail));refine fe ?_;rfl
theorem crd0{P G:Prop}(n:P)(h:Wr P->G:=by(intro n;first|((with_reducible apply kC);first|exact gB ⟨_,z7t _ _ _,.mk rfl n.p⟩|exact gK n.p|exact gS n.p)|exact⟨_,z7t _ _ _,n.p⟩|exact sk n.p|exact ap n.p)):G:=h ⟨n⟩
theorem zpg(most:Int)(ss:List Slip)(ms:List SumR)(now:List Int)(k:Int)(a:Int)(hk:0<=k)(hn:ss.length<=20)(hl:now.length<=ss.length)(hb:∀i,0<=now.getD i 0/\now.getD i 0<=999) :
  AFn (cx G) 13 [bk most ss ms,.sl 1 (il now),vi k,vi a] (vi (zbo ss now k.toNat a now.length)):=by
 obtain⟨k0,rfl⟩:∃k0:Nat,k=(k0:Int):=⟨k.toNat,oc⟩
 simp only [kb9]
 refine aby Tryz.func13 Tryz.ntmps13 λQ hQ=>?_
 (repeat' (first|refine sx ?_|(refine aZ ?_;intros)|refine crd0 ?_|fail))
 refine zam now.length (λi=>[(2*4,.av (.ptr 4 0)),(2*4+1,.cells 25 [vi most,.sl 7 (ss.map Slip.row),.sl 5 (ms.map SumR.row)]),(2*1,.av (.sl 1 (il now))),(2*2,.av (vi k0)),(2*3,.av (vi a)),(2*9,.av (vi (zbo ss now k0 a i))),(2*10,.av (vi i))]) ?_ ?_
 .exact si
 .intro i hi;rcases kae i now.length with hlt|hge
  .obtain⟨s,hs⟩:∃s,ss[i]?=some s:=⟨_,kaa oc⟩;have hrow:(ss.map Slip.row)[i]?=some s.row:=by simp [hs]
   have hil:i<(ss.map Slip.row).length:=by simp;omega
   have hg:ss.getD i d7=s:=by simp [hs]
   have hd:decide ((i:Int)<((il now).length:Int))=true:=by simp;omega
   obtain⟨x,hx⟩:∃x,now[i]?=some x:=⟨_,kaa hlt⟩;have hxr:(il now)[i]?=some [vi x]:=zcm hx;have hxl:i<(il now).length:=by simp;omega
   have hgx:now.getD i 0=x:=by simp [hx]
   have hxb:=hb i;rw [hgx] at hxb;have hp:=z0r (ztu s k0 a) hxb;have hs1:=zpf ss now k0 a hb i;have hsucc:zbo ss now k0 a (i+1)=zbo ss now k0 a i+s.part k0 a*x:=by rw [zji,hg,hgx]
   (repeat' (first|refine sx ?_|(refine aZ ?_;intros)|refine crd0 ?_|fail));refine⟨hlt,?_⟩;exact si
  .have he:i=now.length:=oc
   subst he;have hd:decide ((now.length:Int)<((il now).length:Int))=false:=od
   (repeat' (first|refine sx ?_|(refine aZ ?_;intros)|refine crd0 ?_|fail));refine fe ?_;rfl
def zc6(ss:List Slip)(now:List Int)(i:Nat):Nat->Int
 | 0=>0
 | m+1=>if (ss.getD m d7).kind=3/\(ss.getD m d7).for_=(i:Int) then zc6 ss now i m+now.getD m 0 else zc6 ss now i m
theorem zqi(ss:List Slip)(now:List Int)(i:Nat)(hb:∀i,0<=now.getD i 0/\now.getD i 0<=999):∀m:Nat,0<=zc6 ss now i m/\zc6 ss now i m<=999*(m:Int)
 | 0=>by simp [zc6]
 | m+1=>by have h1:=zqi ss now i hb m;have h2:=hb m;simp only [zc6];split<;>omega
def zf9(ss:List Slip)(now:List Int):Bool:=(List.range now.length).all λi=>decide (zc6 ss now i now.length<=now.getD i 0)
theorem erd1{G:Prop}(h:G:=by((repeat' (first|refine sx ?_|(refine aZ ?_;intros)|refine w0 ?_|fail));refine⟨hml,?_⟩;exact si)):G:=h
theorem erd2{G:Prop}(h:G:=by((repeat' (first|refine sx ?_|(refine aZ ?_;intros)|refine w0 ?_|fail));refine fe ?_;rw [hF])):G:=h
theorem zll(most:Int)(ss:List Slip)(ms:List SumR)(now:List Int)(hn:ss.length<=20)(hl:now.length<=ss.length)(hb:∀i,0<=now.getD i 0/\now.getD i 0<=999) :
  AFn (cx G) 68 [bk most ss ms,.sl 1 (il now)] (vb (zf9 ss now)):=by
 refine aby Tryz.func68 Tryz.ntmps68 λQ hQ=>?_
 (repeat' (first|refine sx ?_|(refine aZ ?_;intros)|refine w0 ?_|fail))
 refine zbe now.length (λi=>∀j,j<i->zc6 ss now j now.length<=now.getD j 0) (λi=>[(2*2,.av (.ptr 2 0)),(2*2+1,.cells 25 [vi most,.sl 7 (ss.map Slip.row),.sl 5 (ms.map SumR.row)]),(2*1,.av (.sl 1 (il now))),(2*5,.av (vi i))]) (λj hj=>oc) ?_ ?_
 .exact si
 .intro i hi hP;rcases kae i now.length with hlt|hge
  .obtain⟨z,hz⟩:∃z,now[i]?=some z:=⟨_,kaa hlt⟩;have hzr:(il now)[i]?=some [vi z]:=zcm hz;have hzl:i<(il now).length:=by simp;omega
   have hgz:now.getD i 0=z:=by simp [hz]
   have hzb:=hb i;rw [hgz] at hzb;have hd:decide ((i:Int)<((il now).length:Int))=true:=by simp;omega
   have hbm:=zqi ss now i hb now.length;(repeat' (first|refine sx ?_|(refine aZ ?_;intros)|refine w0 ?_|fail));refine zam now.length (λm=>[(2*2,.av (.ptr 2 0)),(2*2+1,.cells 25 [vi most,.sl 7 (ss.map Slip.row),.sl 5 (ms.map SumR.row)]),(2*1,.av (.sl 1 (il now))),(2*5,.av (vi i)),(2*6,.av (vi (zc6 ss now i m))),(2*7,.av (vi m))]) ?_ ?_
   .exact si
   .intro m hm;rcases kae m now.length with hml|hmg
    .obtain⟨s,hs⟩:∃s,ss[m]?=some s:=⟨_,kaa oc⟩;have hrow:(ss.map Slip.row)[m]?=some s.row:=by simp [hs]
     have hil:m<(ss.map Slip.row).length:=by simp;omega
     have hg:ss.getD m d7=s:=by simp [hs]
     have hdm:decide ((m:Int)<((il now).length:Int))=true:=by simp;omega
     obtain⟨x,hx⟩:∃x,now[m]?=some x:=⟨_,kaa hml⟩;have hxr:(il now)[m]?=some [vi x]:=zcm hx;have hxl:m<(il now).length:=by simp;omega
     have hgx:now.getD m 0=x:=by simp [hx]
     have hxb:=hb m;rw [hgx] at hxb;have hs1:=zqi ss now i hb m;by_cases hk:s.kind=3
     .have hdk:decide (s.kind=3)=true:=oa hk
      by_cases hf:s.for_=(i:Int)
      .have hdf:decide (s.for_=(i:Int))=true:=oa hf
       have hsucc:zc6 ss now i (m+1)=zc6 ss now i m+x:=by simp only [zc6];rw [hg,if_pos ⟨hk,hf⟩,hgx]
       exact erd1
      .have hdf:decide (s.for_=(i:Int))=false:=oa hf
       have hsucc:zc6 ss now i (m+1)=zc6 ss now i m:=by simp only [zc6];rw [hg,if_neg λh=>hf h.2]
       exact erd1
     .have hdk:decide (s.kind=3)=false:=oa hk
      have hsucc:zc6 ss now i (m+1)=zc6 ss now i m:=by simp only [zc6];rw [hg,if_neg λh=>hk h.1]
      exact erd1
    .have he:m=now.length:=oc
     subst he;have hdm:decide ((now.length:Int)<((il now).length:Int))=false:=od
     by_cases h0:0<zc6 ss now i now.length
     .have hd0:decide ((0:Int)<zc6 ss now i now.length)=true:=oa h0
      by_cases h1:z<zc6 ss now i now.length
      .have hd1:decide (z<zc6 ss now i now.length)=true:=oa h1
       have hF:zf9 ss now=false:=by
        cases hc:zf9 ss now with
        | false=>rfl
        | true =>have:=kar.1 hc i (ka3.2 hlt);rw [hgz] at this;have:=of_decide_eq_true this;omega
       exact erd2
      .have hd1:decide (z<zc6 ss now i now.length)=false:=oa h1
       (repeat' (first|refine sx ?_|(refine aZ ?_;intros)|refine w0 ?_|fail));refine⟨hlt,λj hj=>?_,?_⟩
       .rcases kae j i with h|h
        .exact hP j h
        .have:j=i:=oc
         subst this;rw [hgz];omega
       .exact si
     .have hd0:decide ((0:Int)<zc6 ss now i now.length)=false:=oa h0
      (repeat' (first|refine sx ?_|(refine aZ ?_;intros)|refine w0 ?_|fail));refine⟨hlt,λj hj=>?_,?_⟩
      .rcases kae j i with h|h
       .exact hP j h
       .have:j=i:=oc
        subst this;rw [hgz];omega
      .exact si
  .have he:i=now.length:=oc
   subst he;have hd:decide ((now.length:Int)<((il now).length:Int))=false:=od
   have hF:zf9 ss now=true:=kar.2 λj hj=>decide_eq_true (hP j (ka3.1 hj));exact erd2
end
section
variable{G:zbf}
attribute [local irreducible] AOp AW ADr AFn ze1 AFt AOpJ
set_option maxRecDepth 20000
set_option maxHeartbeats 8000000
abbrev zfo:=List Int×List Bool
def zhu(ss:List Slip):Nat->Nat->List Int->List Bool->List zfo
 | 0,_,wr,sg=>[(wr,sg)]
 | m+1,i,wr,sg=>(zbr (ss.getD i d7).lo (ss.getD i d7).hi).flatMap λn =>
   if (ss.getD i d7).kind≠5 then zhu ss m (i+1) (wr++[n]) sg
   else (if (ss.getD i d7).signed≠1 then zhu ss m (i+1) (wr++[n]) (sg++[false]) else [])++(if (ss.getD i d7).signed≠2 then zhu ss m (i+1) (wr++[n]) (sg++[true]) else [])
end
section
variable{G:zbf}
attribute [local irreducible] AOp AW ADr AFn ze1 AFt AOpJ
set_option maxRecDepth 20000
set_option maxHeartbeats 8000000
def zse(ms:List SumR)(l:List Int):Bool:=(List.range l.length).any λi=>(ms.getD (l.getD i 0).toNat d5).firm
theorem zwh(ms:List SumR)(l:List Int):ybf ms l=!zse ms l:=by
 unfold ybf zse;congr 1;rw [Bool.eq_iff_iff,kaz,kaz];constructor
 .rintro⟨x,hx,h⟩;obtain⟨i,hi⟩:=kba hx;exact⟨i,ka3.2 (kab.1 hi).1,by simpa [hi] using h⟩
 .rintro⟨i,hi,h⟩;have hi:=ka3.1 hi;exact⟨l[i],kbf hi,by simpa [hi] using h⟩
def zrm(ss:List Slip)(wr:List Int)(sg:List Bool)(i:Nat):Bool :=
 decide ((ss.getD i d7).lo<=wr.getD i 0/\wr.getD i 0<=(ss.getD i d7).hi)&&(!decide ((ss.getD i d7).kind=5)||decide ((ss.getD i d7).signed=0)||decide ((ss.getD i d7).signed=1) == sg.getD (zae ss i).length false)
def zxr(ss:List Slip)(wr:List Int)(sg:List Bool):Bool:=(List.range ss.length).all (zrm ss wr sg)
end
section
variable{G:zbf}
attribute [local irreducible] AOp AW ADr AFn ze1 AFt AOpJ
set_option maxRecDepth 20000
set_option maxHeartbeats 8000000
theorem crg0{P G:Prop}(n:P)(h:Wr P->G:=by(intro n;first|((with_reducible apply kC);first|exact gB ⟨_,zv8 _ _ _,.mk rfl n.p⟩|exact gK n.p|exact gS n.p)|exact⟨_,zv8 _ _ _,n.p⟩|exact sk n.p|exact ap n.p)):G:=h ⟨n⟩
theorem ykb(lo hi n:Int):AFn (cx G) 31 [.agg [vi lo,vi hi],vi n] (vb (decide (lo<=n/\n<=hi))):=by refine aby Tryz.func31 Tryz.ntmps31 λQ hQ=>?_;(repeat' (first|refine sx ?_|(refine aZ ?_;intros)|refine crg0 ?_|fail));refine fe ?_;rfl
def ygx(ps:List Nat):List (List AV):=ps.map λ(n:Nat)=>[AV.val (.int .u16 (n:Int))]
def ygr(ps:List Nat)(i:Nat):Int:=((ps.getD i 0:Nat):Int)
theorem erg0{G:Prop}(h:G:=by((repeat' (first|refine sx ?_|(refine aZ ?_;intros)|refine crg1 ?_|fail));refine fe ?_;rw [hc])):G:=h
theorem yhg(ps:List Nat)(hp:∀n∈ps,n<65536)(i:Nat):AFn (cx G) 66 [.sl 1 (ygx ps),vi i] (vi (ygr ps i)):=by
 refine aby Tryz.func66 Tryz.ntmps66 λQ hQ=>?_;have hlen:(ygx ps).length=ps.length:=by simp [ygx]
 rcases kae i ps.length with hlt|hge
 .obtain⟨n,hn⟩:∃n,ps[i]?=some n:=⟨_,kaa hlt⟩;have hnm:=hp n (kag hn);have hrow:(ygx ps)[i]?=some [.val (.int .u16 (n:Int))]:=by simp [ygx,hn]
  have hil:i<(ygx ps).length:=oc
  have hd:decide ((i:Int)<((ygx ps).length:Int))=true:=by simp;omega
  have hc:ygr ps i=(n:Int):=by simp [ygr,hn]
  exact erg0
 .have hd:decide ((i:Int)<((ygx ps).length:Int))=false:=by simp;omega
  have hc:ygr ps i=0:=by simp [ygr,kay hge]
  exact erg0
end
section
variable{G:zbf}
attribute [local irreducible] AOp AW ADr AFn ze1 AFt AOpJ
set_option maxRecDepth 20000
set_option maxHeartbeats 8000000
def yhh(s:Slip)(c:Int):Int:=s.lo+c % (s.hi-s.lo+1)
def yg4(s:Slip)(c:Int):Bool:=if s.signed=1 then true else if s.signed=0 then decide (c / 7 % 2=1) else false
def ygy(ss:List Slip)(ps:List Nat):Nat->List Int
 | 0=>[]
 | n+1=>ygy ss ps n++[yhh (ss.getD n d7) (ygr ps n)]
def ygv(ss:List Slip)(ps:List Nat):Nat->List Bool
 | 0=>[]
 | n+1=>if (ss.getD n d7).kind=5 then ygv ss ps n++[yg4 (ss.getD n d7) (ygr ps n)] else ygv ss ps n
theorem ygw(ss:List Slip)(ps:List Nat):∀n,(ygy ss ps n).length=n
 | 0=>rfl
 | n+1=>by simp [ygy,ygw ss ps n]
theorem yg0(ss:List Slip)(ps:List Nat):∀n,(ygv ss ps n).length=(zae ss n).length
 | 0=>rfl
 | n+1=>by have:=yg0 ss ps n;rw [zbn];simp only [ygv];split<;>simp [this]
theorem yhp(c d:Int)(hd:0<d):0<=c % d/\c % d<d:=⟨Int.emod_nonneg _ oc,Int.emod_lt_of_pos _ hd⟩
theorem cre0{P G:Prop}(n:P)(h:Wr P->G:=by(intro n;first|((with_reducible apply kC);first|exact gB ⟨_,yhg ps hp _,.mk rfl n.p⟩|exact gK n.p|exact gS n.p)|exact⟨_,yhg ps hp _,n.p⟩|exact sk n.p|exact ap n.p)):G:=h ⟨n⟩
theorem ere0{G:Prop}(h:G:=by((repeat' (first|refine sx ?_|(refine aZ ?_;intros)|refine cre0 ?_|fail));refine⟨hlt,?_⟩;refine zbg (rn2 1000 41 1001 63) ?_ rfl rfl;exact sr)):G:=h
theorem yhv(most:Int)(ss:List Slip)(ms:List SumR)(ps:List Nat)(hp:∀n∈ps,n<65536)(hn:ss.length<=20)(hok:∀(i:Nat) (s:Slip),ss[i]?=some s->zne ss i s) :
  AFn (cx G) 27 [bk most ss ms,.sl 1 (ygx ps)] (.agg [.sl 1 (il (ygy ss ps ss.length)),.sl 1 (bl (ygv ss ps ss.length))]):=by
 refine aby Tryz.func27 Tryz.ntmps27 λQ hQ=>?_
 (repeat' (first|refine sx ?_|(refine aZ ?_;intros)|refine cre0 ?_|fail))
 refine zbx (zh1 5 0 1000 1 3 rfl rfl rfl) ?_
 refine zbx (zh1 5 1 1001 1 4 rfl rfl rfl) ?_
 refine zam ss.length (λi=>[(2*2,.av (.ptr 2 0)),(2*2+1,.cells 25 [vi most,.sl 7 (ss.map Slip.row),.sl 5 (ms.map SumR.row)]),(2*1,.av (.sl 1 (ygx ps))),
  (2*4,.av (.ptr 4 0)),(2*4+1,.cells 45 [.val (.slice none 0 0),.val (.slice none 0 0)]),(2*5,.av (.ptr 5 0)),(2*5+1,.cells 45 [.own 1000,.own 1001]),
  (2*1000+1,.buf 1 3 (il (ygy ss ps i))),(2*1001+1,.buf 1 4 (bl (ygv ss ps i))),(2*6,.av (vi i))]) ?_ ?_
 .exact si
 .intro i hi;have hlen:=ygw ss ps i;have hglen:=yg0 ss ps i;have hfl:=zfi ss i;rcases kae i ss.length with hlt|hge
  .obtain⟨s,hs⟩:∃s,ss[i]?=some s:=⟨_,kaa hlt⟩;have hrow:(ss.map Slip.row)[i]?=some s.row:=by simp [hs]
   have hil:i<(ss.map Slip.row).length:=oa hlt
   have hg:ss.getD i d7=s:=by simp [hs]
   have hd:decide ((i:Int)<((ss.map Slip.row).length:Int))=true:=by simp;omega
   have hamt:=(hok i s hs).amt;have hc:0<=ygr ps i:=by unfold ygr;omega
   have hcl:ygr ps i<=65536:=by
    unfold ygr;rcases kae i ps.length with h|h
    .have:=hp _ (kbf h);simp [kaa h];omega
    .simp [kay h]
   have hr:=yhp (ygr ps i) (s.hi-s.lo+1) oc;have hwsucc:il (ygy ss ps (i+1))=il (ygy ss ps i)++[[vi (s.lo+ygr ps i % (s.hi-s.lo+1))]]:=by simp only [ygy];rw [hg];simp [yhh]
   have h1000:(il (ygy ss ps i)).length+1<=1000000000:=by simp;omega
   have h1001:(bl (ygv ss ps i)).length+1<=1000000000:=by simp;omega
   by_cases hk:s.kind=5
   .have hdk:decide (s.kind=5)=true:=oa hk
    by_cases h1:s.signed=1
    .have hd1:decide (s.signed=1)=true:=oa h1
     have hgsucc:bl (ygv ss ps (i+1))=bl (ygv ss ps i)++[[vb true]]:=by simp only [ygv];rw [hg,if_pos hk];simp [yg4,h1]
     exact ere0
    .have hd1:decide (s.signed=1)=false:=oa h1
     by_cases h0:s.signed=0
     .have hd0:decide (s.signed=0)=true:=oa h0
      have hgsucc:bl (ygv ss ps (i+1))=bl (ygv ss ps i)++[[vb (decide (ygr ps i / 7 % 2=1))]]:=by simp only [ygv];rw [hg,if_pos hk];simp [yg4,h0]
      exact ere0
     .have hd0:decide (s.signed=0)=false:=oa h0
      have hgsucc:bl (ygv ss ps (i+1))=bl (ygv ss ps i)++[[vb false]]:=by simp only [ygv];rw [hg,if_pos hk];simp [yg4,h0,h1]
      exact ere0
   .have hdk:decide (s.kind=5)=false:=oa hk
    have hgsucc:bl (ygv ss ps (i+1))=bl (ygv ss ps i):=by simp only [ygv];rw [hg,if_neg hk]
    (repeat' (first|refine sx ?_|(refine aZ ?_;intros)|refine cre0 ?_|fail));refine⟨hlt,?_⟩;refine zbg (rn1 1000 41) ?_ rfl rfl;exact sr
  .have he:i=ss.length:=oc
   subst he;have hd:decide ((ss.length:Int)<((ss.map Slip.row).length:Int))=false:=od
   (repeat' (first|refine sx ?_|(refine aZ ?_;intros)|refine cre0 ?_|fail));refine fe ?_;rfl
end
end Go.Ab.J
