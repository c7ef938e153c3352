/- Pieces of a law about sales. Conditions: none. -/
import Derived.Test.YtfgciihkmemdlaaGreatDoorHPa
namespace Go.Ab.J
open Go Go.Proofs Go.Kp
section
variable{G:zbf}
attribute [local irreducible] AOp AW ADr AFn ze1 AFt AOpJ
set_option maxRecDepth 20000
set_option maxHeartbeats 8000000
theorem crc0{P G:Prop}(n:P)(h:Wr P->G:=by(intro n;first|((with_reducible apply kC);first|exact gB ⟨_,zjr _,.mk rfl n.p⟩|exact gK n.p|exact gS n.p)|exact⟨_,zjr _,n.p⟩|exact sk n.p|exact ap n.p)):G:=h ⟨n⟩
theorem z7t(s:Slip)(k:Nat)(a:Int):AFn (cx G) 183 [.agg s.row,vi k,vi a] (vi (s.part k a)):=by
 refine aby Tryz.func183 Tryz.ntmps183 λQ hQ=>?_;have hk:k=0\/k=1\/k=2\/k=3\/4<=k:=oc
 rcases hk with rfl|rfl|rfl|rfl|hk;case inr.inr.inr.inr =>
  have h0:decide ((k:Int)=0)=false:=by simp;omega
  have h1:decide ((k:Int)=1)=false:=by simp;omega
  have h2:decide ((k:Int)=2)=false:=by simp;omega
  have h3:decide ((k:Int)=3)=false:=by simp;omega
  have hp:s.part k a=sgn (s.kind=2) False:=by obtain⟨m,rfl⟩:∃m,k=m+4:=⟨k-4,oc⟩;rfl
  (repeat' (first|refine sx ?_|(refine aZ ?_;intros)|refine crc0 ?_|(refine s2 ?_ ?_<;>intro h7<;>try omega)));all_goals refine fe ?_
  all_goals refine congrArg vi ?_
  all_goals rw [hp]
  all_goals unfold sgn
  all_goals simp_all
 all_goals (repeat' (first|refine sx ?_|(refine aZ ?_;intros)|refine crc0 ?_|(refine s2 ?_ ?_<;>intro h7<;>try omega)))
 all_goals refine fe ?_
 all_goals refine congrArg vi ?_
 all_goals simp only [Slip.part]
 all_goals unfold sgn
 all_goals grind
end
section
variable{G:zbf}
attribute [local irreducible] AOp AW ADr AFn ze1 AFt AOpJ
set_option maxRecDepth 20000
set_option maxHeartbeats 8000000
theorem z8h{l:List Bool}{i:Nat}{x:Bool}(h:l[i]?=some x):(bl l)[i]?=some [vb x]:=by simp [h]
theorem yal{l:List Int}{i:Nat}(h:l.length=i)(r:List AV):(il l++[r])[i]?=some r:=by subst h;simp
def zdv(ss:List Slip)(wr:List Int)(sg:List Bool):Nat->List Int×Nat
 | 0=>([],0)
 | n+1=>if (ss.getD n d7).kind=5 then
    (if sg.getD (zdv ss wr sg n).2 false then (((zdv ss wr sg n).1++[wr.getD n 0]).set n 0).set (ss.getD n d7).for_.toNat (wr.getD n 0) else ((zdv ss wr sg n).1++[wr.getD n 0]).set n 0,(zdv ss wr sg n).2+1)
   else ((zdv ss wr sg n).1++[wr.getD n 0],(zdv ss wr sg n).2)
theorem zk3(ss:List Slip)(wr:List Int)(sg:List Bool):∀n,(zdv ss wr sg n).1.length=n
 | 0=>rfl
 | n+1=>by
   have:=zk3 ss wr sg n;simp only [zdv];split
   .split<;>simp [this]
   .simp [this]
theorem zpp(ss:List Slip)(wr:List Int)(sg:List Bool):∀n,(zdv ss wr sg n).2=(zae ss n).length
 | 0=>rfl
 | n+1=>by have:=zpp ss wr sg n;rw [zbn];simp only [zdv];split<;>simp [this]
theorem zmx(ss:List Slip){a b:Nat}(h:a<=b):(zae ss a).length<=(zae ss b).length:=by
 induction h with
 | refl=>exact kac _
 | step h ih=>rw [zbn];simp only [kbx];omega
theorem erd0{G:Prop}(h:G:=by((repeat' (first|refine sx ?_|(refine aZ ?_;intros)|refine w0 ?_|fail));refine⟨hlt,?_⟩;refine zbg (rn1 1000 22) ?_ rfl rfl;exact sr)):G:=h
theorem zey(most:Int)(ss:List Slip)(ms:List SumR)(wr:List Int)(sg:List Bool)(hn:ss.length<=20)(hok:∀(i:Nat) (s:Slip),ss[i]?=some s->zne ss i s)(hw:wr.length=ss.length)(hsg:sg.length=(zae ss ss.length).length) :
  AFn (cx G) 85 [bk most ss ms,.agg [.sl 1 (il wr),.sl 1 (bl sg)]] (.sl 1 (il (zdv ss wr sg ss.length).1)):=by
 refine aby Tryz.func85 Tryz.ntmps85 λQ hQ=>?_
 (repeat' (first|refine sx ?_|(refine aZ ?_;intros)|refine w0 ?_|fail))
 refine zbx (zbd 5 1000 1 3 rfl rfl) ?_
 refine zam ss.length (λi=>[(2*2,.av (.ptr 2 0)),(2*2+1,.cells 25 [vi most,.sl 7 (ss.map Slip.row),.sl 5 (ms.map SumR.row)]),(2*3,.av (.ptr 3 0)),(2*3+1,.cells 140 [.sl 1 (il wr),.sl 1 (bl sg)]),
  (2*5,.av (.own 1000)),(2*1000+1,.buf 1 3 (il (zdv ss wr sg i).1)),(2*6,.av (vi ((zdv ss wr sg i).2:Int))),(2*7,.av (vi i))]) ?_ ?_
 .exact si
 .intro i hi;have hlen:=zk3 ss wr sg i;have hilen:(il (zdv ss wr sg i).1).length=i:=by simp [hlen]
  have hfx:=zpp ss wr sg i;rcases kae i ss.length with hlt|hge
  .obtain⟨s,hs⟩:∃s,ss[i]?=some s:=⟨_,kaa hlt⟩;have hrow:(ss.map Slip.row)[i]?=some s.row:=by simp [hs]
   have hil:i<(ss.map Slip.row).length:=oa hlt
   have hg:ss.getD i d7=s:=by simp [hs]
   have hd:decide ((i:Int)<((ss.map Slip.row).length:Int))=true:=by simp;omega
   obtain⟨x,hx⟩:∃x,wr[i]?=some x:=⟨_,kaa oc⟩;have hxr:(il wr)[i]?=some [vi x]:=zcm hx;have hxl:i<(il wr).length:=by simp;omega
   have hgx:wr.getD i 0=x:=by simp [hx]
   have h1000:(il (zdv ss wr sg i).1).length+1<=1000000000:=oc
   by_cases hk:s.kind=5
   .have hdk:decide (s.kind=5)=true:=oa hk
    have hf5:=(hok i s hs).for5 hk;obtain⟨f,hf⟩:∃f:Nat,s.for_=(f:Int):=⟨s.for_.toNat,oc⟩;have hfi:f<i:=oc
    have hfl:(zae ss (i+1)).length=(zae ss i).length+1:=by rw [zbn,hg,if_pos hk];simp
    have hmono:=zmx ss (a:=i+1) (b:=ss.length) oc;obtain⟨y,hy⟩:∃y,sg[(zdv ss wr sg i).2]?=some y:=⟨_,kaa oc⟩;have hyr:(bl sg)[(zdv ss wr sg i).2]?=some [vb y]:=z8h hy;have hyl:(zdv ss wr sg i).2<(bl sg).length:=by simp;omega
    have hgy:sg.getD (zdv ss wr sg i).2 false=y:=by simp [hy]
    have hf20:(zdv ss wr sg i).2<20:=by have:=zfi ss i;omega
    have hget:(il (zdv ss wr sg i).1++[[vi x]])[i]?=some [vi x]:=yal hlen _;have hgl:i<(il (zdv ss wr sg i).1++[[vi x]]).length:=by simp [hlen]
    have hfn:(zdv ss wr sg (i+1)).2=(zdv ss wr sg i).2+1:=by simp only [zdv];rw [hg,if_pos hk]
    have hfc:vi ((zdv ss wr sg (i+1)).2:Int)=vi (((zdv ss wr sg i).2:Int)+1):=by rw [hfn];simp
    cases y with
    | false =>
      have hsucc:il (zdv ss wr sg (i+1)).1=(il (zdv ss wr sg i).1++[[vi x]]).set i [vi 0]:=by simp only [zdv];rw [hg,if_pos hk,hgx,hgy];simp
      exact erd0
    | true =>
      have hsucc:il (zdv ss wr sg (i+1)).1=((il (zdv ss wr sg i).1++[[vi x]]).set i [vi 0]).set f [vi x]:=by simp only [zdv];rw [hg,if_pos hk,hgx,hgy,hf];simp
      obtain⟨z,hz⟩:∃z,(zdv ss wr sg i).1[f]?=some z:=⟨_,kaa oc⟩;have hget2:((il (zdv ss wr sg i).1++[[vi x]]).set i [vi 0])[f]?=some [vi z]:=by rw [kdg oc,kam oc,zcm hz]
      have hgl2:f<((il (zdv ss wr sg i).1++[[vi x]]).set i [vi 0]).length:=by simp [hlen];omega
      exact erd0
   .have hdk:decide (s.kind=5)=false:=oa hk
    have hsucc:il (zdv ss wr sg (i+1)).1=il (zdv ss wr sg i).1++[[vi x]]:=by simp only [zdv];rw [hg,if_neg hk,hgx];simp
    have hfn:(zdv ss wr sg (i+1)).2=(zdv ss wr sg i).2:=by simp only [zdv];rw [hg,if_neg hk]
    exact erd0
  .have he:i=ss.length:=oc
   subst he;have hd:decide ((ss.length:Int)<((ss.map Slip.row).length:Int))=false:=od
   (repeat' (first|refine sx ?_|(refine aZ ?_;intros)|refine w0 ?_|fail));refine fe ?_;rfl
theorem crd0{P G:Prop}(n:P)(h:Wr P->G:=by(intro n;first|((with_reducible apply kC);first|exact gB ⟨_,z7t _ _ _,.mk rfl n.p⟩|exact gK n.p|exact gS n.p)|exact⟨_,z7t _ _ _,n.p⟩|exact sk n.p|exact ap n.p)):G:=h ⟨n⟩
theorem zpg(most:Int)(ss:List Slip)(ms:List SumR)(now:List Int)(k:Int)(a:Int)(hk:0<=k)(hn:ss.length<=20)(hl:now.length<=ss.length)(hb:∀i,0<=now.getD i 0/\now.getD i 0<=999) :
  AFn (cx G) 152 [bk most ss ms,.sl 1 (il now),vi k,vi a] (vi (zbo ss now k.toNat a now.length)):=by
 obtain⟨k0,rfl⟩:∃k0:Nat,k=(k0:Int):=⟨k.toNat,oc⟩
 simp only [kb9]
 refine aby Tryz.func152 Tryz.ntmps152 λQ hQ=>?_
 (repeat' (first|refine sx ?_|(refine aZ ?_;intros)|refine crd0 ?_|fail))
 refine zam now.length (λi=>[(2*4,.av (.ptr 4 0)),(2*4+1,.cells 25 [vi most,.sl 7 (ss.map Slip.row),.sl 5 (ms.map SumR.row)]),(2*1,.av (.sl 1 (il now))),(2*2,.av (vi k0)),(2*3,.av (vi a)),(2*9,.av (vi (zbo ss now k0 a i))),(2*10,.av (vi i))]) ?_ ?_
 .exact si
 .intro i hi;rcases kae i now.length with hlt|hge
  .obtain⟨s,hs⟩:∃s,ss[i]?=some s:=⟨_,kaa oc⟩;have hrow:(ss.map Slip.row)[i]?=some s.row:=by simp [hs]
   have hil:i<(ss.map Slip.row).length:=by simp;omega
   have hg:ss.getD i d7=s:=by simp [hs]
   have hd:decide ((i:Int)<((il now).length:Int))=true:=by simp;omega
   obtain⟨x,hx⟩:∃x,now[i]?=some x:=⟨_,kaa hlt⟩;have hxr:(il now)[i]?=some [vi x]:=zcm hx;have hxl:i<(il now).length:=by simp;omega
   have hgx:now.getD i 0=x:=by simp [hx]
   have hxb:=hb i;rw [hgx] at hxb;have hp:=z0r (ztu s k0 a) hxb;have hs1:=zpf ss now k0 a hb i;have hsucc:zbo ss now k0 a (i+1)=zbo ss now k0 a i+s.part k0 a*x:=by rw [zji,hg,hgx]
   (repeat' (first|refine sx ?_|(refine aZ ?_;intros)|refine crd0 ?_|fail));refine⟨hlt,?_⟩;exact si
  .have he:i=now.length:=oc
   subst he;have hd:decide ((now.length:Int)<((il now).length:Int))=false:=od
   (repeat' (first|refine sx ?_|(refine aZ ?_;intros)|refine crd0 ?_|fail));refine fe ?_;rfl
def zc6(ss:List Slip)(now:List Int)(i:Nat):Nat->Int
 | 0=>0
 | m+1=>if (ss.getD m d7).kind=3/\(ss.getD m d7).for_=(i:Int) then zc6 ss now i m+now.getD m 0 else zc6 ss now i m
theorem zqi(ss:List Slip)(now:List Int)(i:Nat)(hb:∀i,0<=now.getD i 0/\now.getD i 0<=999):∀m:Nat,0<=zc6 ss now i m/\zc6 ss now i m<=999*(m:Int)
 | 0=>by simp [zc6]
 | m+1=>by have h1:=zqi ss now i hb m;have h2:=hb m;simp only [zc6];split<;>omega
def zf9(ss:List Slip)(now:List Int):Bool:=(List.range now.length).all λi=>decide (zc6 ss now i now.length<=now.getD i 0)
theorem erd1{G:Prop}(h:G:=by((repeat' (first|refine sx ?_|(refine aZ ?_;intros)|refine w0 ?_|fail));refine⟨hml,?_⟩;exact si)):G:=h
theorem erd2{G:Prop}(h:G:=by((repeat' (first|refine sx ?_|(refine aZ ?_;intros)|refine w0 ?_|fail));refine fe ?_;rw [hF])):G:=h
theorem zll(most:Int)(ss:List Slip)(ms:List SumR)(now:List Int)(hn:ss.length<=20)(hl:now.length<=ss.length)(hb:∀i,0<=now.getD i 0/\now.getD i 0<=999) :
  AFn (cx G) 155 [bk most ss ms,.sl 1 (il now)] (vb (zf9 ss now)):=by
 refine aby Tryz.func155 Tryz.ntmps155 λQ hQ=>?_
 (repeat' (first|refine sx ?_|(refine aZ ?_;intros)|refine w0 ?_|fail))
 refine zbe now.length (λi=>∀j,j<i->zc6 ss now j now.length<=now.getD j 0) (λi=>[(2*2,.av (.ptr 2 0)),(2*2+1,.cells 25 [vi most,.sl 7 (ss.map Slip.row),.sl 5 (ms.map SumR.row)]),(2*1,.av (.sl 1 (il now))),(2*5,.av (vi i))]) (λj hj=>oc) ?_ ?_
 .exact si
 .intro i hi hP;rcases kae i now.length with hlt|hge
  .obtain⟨z,hz⟩:∃z,now[i]?=some z:=⟨_,kaa hlt⟩;have hzr:(il now)[i]?=some [vi z]:=zcm hz;have hzl:i<(il now).length:=by simp;omega
   have hgz:now.getD i 0=z:=by simp [hz]
   have hzb:=hb i;rw [hgz] at hzb;have hd:decide ((i:Int)<((il now).length:Int))=true:=by simp;omega
   have hbm:=zqi ss now i hb now.length;(repeat' (first|refine sx ?_|(refine aZ ?_;intros)|refine w0 ?_|fail));refine zam now.length (λm=>[(2*2,.av (.ptr 2 0)),(2*2+1,.cells 25 [vi most,.sl 7 (ss.map Slip.row),.sl 5 (ms.map SumR.row)]),(2*1,.av (.sl 1 (il now))),(2*5,.av (vi i)),(2*6,.av (vi (zc6 ss now i m))),(2*7,.av (vi m))]) ?_ ?_
   .exact si
   .intro m hm;rcases kae m now.length with hml|hmg
    .obtain⟨s,hs⟩:∃s,ss[m]?=some s:=⟨_,kaa oc⟩;have hrow:(ss.map Slip.row)[m]?=some s.row:=by simp [hs]
     have hil:m<(ss.map Slip.row).length:=by simp;omega
     have hg:ss.getD m d7=s:=by simp [hs]
     have hdm:decide ((m:Int)<((il now).length:Int))=true:=by simp;omega
     obtain⟨x,hx⟩:∃x,now[m]?=some x:=⟨_,kaa hml⟩;have hxr:(il now)[m]?=some [vi x]:=zcm hx;have hxl:m<(il now).length:=by simp;omega
     have hgx:now.getD m 0=x:=by simp [hx]
     have hxb:=hb m;rw [hgx] at hxb;have hs1:=zqi ss now i hb m;by_cases hk:s.kind=3
     .have hdk:decide (s.kind=3)=true:=oa hk
      by_cases hf:s.for_=(i:Int)
      .have hdf:decide (s.for_=(i:Int))=true:=oa hf
       have hsucc:zc6 ss now i (m+1)=zc6 ss now i m+x:=by simp only [zc6];rw [hg,if_pos ⟨hk,hf⟩,hgx]
       exact erd1
      .have hdf:decide (s.for_=(i:Int))=false:=oa hf
       have hsucc:zc6 ss now i (m+1)=zc6 ss now i m:=by simp only [zc6];rw [hg,if_neg λh=>hf h.2]
       exact erd1
     .have hdk:decide (s.kind=3)=false:=oa hk
      have hsucc:zc6 ss now i (m+1)=zc6 ss now i m:=by simp only [zc6];rw [hg,if_neg λh=>hk h.1]
      exact erd1
    .have he:m=now.length:=oc
     subst he;have hdm:decide ((now.length:Int)<((il now).length:Int))=false:=od
     by_cases h0:0<zc6 ss now i now.length
     .have hd0:decide ((0:Int)<zc6 ss now i now.length)=true:=oa h0
      by_cases h1:z<zc6 ss now i now.length
      .have hd1:decide (z<zc6 ss now i now.length)=true:=oa h1
       have hF:zf9 ss now=false:=by
        cases hc:zf9 ss now with
        | false=>rfl
        | true =>have:=kar.1 hc i (ka3.2 hlt);rw [hgz] at this;have:=of_decide_eq_true this;omega
       exact erd2
      .have hd1:decide (z<zc6 ss now i now.length)=false:=oa h1
       (repeat' (first|refine sx ?_|(refine aZ ?_;intros)|refine w0 ?_|fail));refine⟨hlt,λj hj=>?_,?_⟩
       .rcases kae j i with h|h
        .exact hP j h
        .have:j=i:=oc
         subst this;rw [hgz];omega
       .exact si
     .have hd0:decide ((0:Int)<zc6 ss now i now.length)=false:=oa h0
      (repeat' (first|refine sx ?_|(refine aZ ?_;intros)|refine w0 ?_|fail));refine⟨hlt,λj hj=>?_,?_⟩
      .rcases kae j i with h|h
       .exact hP j h
       .have:j=i:=oc
        subst this;rw [hgz];omega
      .exact si
  .have he:i=now.length:=oc
   subst he;have hd:decide ((now.length:Int)<((il now).length:Int))=false:=od
   have hF:zf9 ss now=true:=kar.2 λj hj=>decide_eq_true (hP j (ka3.1 hj));exact erd2
end
section
variable{G:zbf}
attribute [local irreducible] AOp AW ADr AFn ze1 AFt AOpJ
set_option maxRecDepth 20000
set_option maxHeartbeats 8000000
theorem zw6{C:Cx}{f:FuncId}{xs ys:List AV}{r:AV}(h:AFn C f ys r)(k:∀(E:Env) (w:World) vs,yf1 E w xs vs->yf1 E w ys vs):AFn C f xs r:=by unfold AFn at *;exact⟨h.1,h.2.1,λPost imm σ w vs h1 h2 h3=>h.2.2 Post imm σ w vs h1 h2 (k _ _ _ h3)⟩
abbrev zfo:=List Int×List Bool
def zhu(ss:List Slip):Nat->Nat->List Int->List Bool->List zfo
 | 0,_,wr,sg=>[(wr,sg)]
 | m+1,i,wr,sg=>(zbr (ss.getD i d7).lo (ss.getD i d7).hi).flatMap λn =>
   if (ss.getD i d7).kind≠5 then zhu ss m (i+1) (wr++[n]) sg
   else (if (ss.getD i d7).signed≠1 then zhu ss m (i+1) (wr++[n]) (sg++[false]) else [])++(if (ss.getD i d7).signed≠2 then zhu ss m (i+1) (wr++[n]) (sg++[true]) else [])
abbrev rp(l:List zfo):List (List AV):=l.map λp=>[.sl 1 (il p.1),.sl 1 (bl p.2)]
theorem zhi(ss:List Slip)(h3:∀s∈ss,s.hi-s.lo<3):∀m i wr sg,(zhu ss m i wr sg).length<=6 ^ m
 | 0,i,wr,sg=>by simp [zhu]
 | m+1,i,wr,sg=>by
   have hw:(zbr (ss.getD i d7).lo (ss.getD i d7).hi).length<=3:=by
    rw [zl0];have:(ss.getD i d7).hi-(ss.getD i d7).lo<3:=by
     rcases kae i ss.length with h|h
     .rw [show ss.getD i d7=ss[i] by simp [h]];exact h3 _ (kbf h)
     .rw [show ss.getD i d7=d7 by simp [h]];decide
    omega
   have h1:∀n∈zbr (ss.getD i d7).lo (ss.getD i d7).hi,(if (ss.getD i d7).kind≠5 then zhu ss m (i+1) (wr++[n]) sg
   else (if (ss.getD i d7).signed≠1 then zhu ss m (i+1) (wr++[n]) (sg++[false]) else [])++(if (ss.getD i d7).signed≠2 then zhu ss m (i+1) (wr++[n]) (sg++[true]) else [])).length<=2*6 ^ m:=λn _=>by
    have a:=zhi ss h3 m (i+1) (wr++[n]) sg;have b:=zhi ss h3 m (i+1) (wr++[n]) (sg++[false]);have c:=zhi ss h3 m (i+1) (wr++[n]) (sg++[true]);split
    .omega
    .rw [kbx];split<;>split<;>(try simp only [kbv])<;>omega
   have:=zoq h1;unfold zhu;have h4:=kcy (2*6 ^ m) hw;rw [Nat.pow_succ];omega
def yck(ss:List Slip)(m i:Nat)(wr:List Int)(sg:List Bool)(n:Int):List zfo :=
    if (ss.getD i d7).kind≠5 then zhu ss m (i+1) (wr++[n]) sg
    else (if (ss.getD i d7).signed≠1 then zhu ss m (i+1) (wr++[n]) (sg++[false]) else [])++(if (ss.getD i d7).signed≠2 then zhu ss m (i+1) (wr++[n]) (sg++[true]) else [])
def zlk(ss:List Slip)(m i:Nat)(wr:List Int)(sg:List Bool)(q:Nat):List zfo:=((zbr (ss.getD i d7).lo (ss.getD i d7).hi).take q).flatMap (yck ss m i wr sg)
theorem z2l(ss:List Slip)(m i:Nat)(wr:List Int)(sg:List Bool)(q:Nat)(hq:(ss.getD i d7).lo+(q:Int)<=(ss.getD i d7).hi):zlk ss m i wr sg (q+1)=zlk ss m i wr sg q++yck ss m i wr sg ((ss.getD i d7).lo+(q:Int)):=by unfold zlk;rw [(znw _ _ q hq).1,List.flatMap_append];simp
theorem zwv(ss:List Slip)(m i:Nat)(wr:List Int)(sg:List Bool):zlk ss m i wr sg (zbr (ss.getD i d7).lo (ss.getD i d7).hi).length=zhu ss (m+1) i wr sg:=by unfold zlk;rw [kdl];rfl
theorem ybc{P G:Prop}(n:P)(h:Wr P->G:=by(intro n;first|((with_reducible apply kC);first|exact gB ⟨_,c0,.mk rfl n.p⟩|exact gB ⟨_,c1,.mk rfl n.p⟩|exact gB ⟨_,c2,.mk rfl n.p⟩|exact gK n.p|exact gS n.p)|exact⟨_,c0,n.p⟩|exact⟨_,c1,n.p⟩|exact⟨_,c2,n.p⟩|exact sk n.p|exact ap n.p)):G:=h ⟨n⟩
theorem yeh(most:Int)(ss:List Slip)(ms:List SumR)(hn:ss.length<=6)(hok:∀s∈ss,(0<=s.lo/\s.hi<=999)/\s.lo<=s.hi/\s.hi-s.lo<3):∀(m i:Nat) (wr:List Int) (sg:List Bool),wr.length=i->i+m=ss.length->sg.length<=i->
  AFn (cx G) 184 [bk most ss ms,.agg [.sl 1 (il wr),.sl 1 (bl sg)]] (.sl 2 (rp (zhu ss m i wr sg))):=by
 intro m
 induction m with
 | zero =>
   intro i wr sg hw hi hs;refine aby Tryz.func184 Tryz.ntmps184 λQ hQ=>?_;have hd:decide (((il wr).length:Int)=((ss.map Slip.row).length:Int))=true:=by simp;omega
   (repeat' (first|refine sx ?_|(refine aZ ?_;intros)|refine ybc ?_|fail));refine fe ?_;rfl
 | succ m ih =>
   intro i wr sg hw hi hs;refine aby Tryz.func184 Tryz.ntmps184 λQ hQ=>?_;have hil:i<ss.length:=oc
   have hd:decide (((il wr).length:Int)=((ss.map Slip.row).length:Int))=false:=by simp;omega
   obtain⟨s,hss⟩:∃s,ss[i]?=some s:=⟨_,kaa hil⟩;have hrow:(ss.map Slip.row)[i]?=some s.row:=by simp [hss]
   have hil2:i<(ss.map Slip.row).length:=oa hil
   have hg:ss.getD i d7=s:=by simp [hss]
   have hsm:=hok s (kag hss);have hil3:(il wr).length=i:=by simp [hw]
   have hrow3:(ss.map Slip.row)[(il wr).length]?=some s.row:=by rw [hil3];exact hrow
   have hil4:(il wr).length<(ss.map Slip.row).length:=by rw [hil3];exact hil2
   have h3:∀s∈ss,s.hi-s.lo<3:=λs hs=>(hok s hs).2.2;have hsl:=zl0 s.lo s.hi;have hU:∀q,q<=(zbr s.lo s.hi).length->(zlk ss m i wr sg q).length<=60000:=λq _=>by
    have h1:=zhi ss h3 (m+1) i wr sg;rw [<-zwv] at h1;have h2:6 ^ (m+1)<=6 ^ 6:=kbi oe oc;have h4:(zlk ss m i wr sg q).length<=(zlk ss m i wr sg (zbr (ss.getD i d7).lo (ss.getD i d7).hi).length).length:=by
     unfold zlk;rw [kdl]
     conv=>rhs;rw [<-List.take_append_drop q (zbr (ss.getD i d7).lo (ss.getD i d7).hi)]
     rw [List.flatMap_append,kbx];omega
    have:6 ^ 6=46656:=oe
    omega
   have hR:∀wr sg,(zhu ss m (i+1) wr sg).length<=60000:=λwr sg=>by
    have h1:=zhi ss h3 m (i+1) wr sg;have h2:6 ^ m<=6 ^ 6:=kbi oe oc;have:6 ^ 6=46656:=oe
    omega
   (repeat' (first|refine sx ?_|(refine aZ ?_;intros)|refine ybc ?_|fail));refine zbx (zbd 7 1000 2 140 rfl rfl) ?_;have hz0:vi (s.lo+((0:Nat):Int))=vi s.lo:=od
   have hz1:∀q:Nat,vi (s.lo+((q+1:Nat):Int))=vi (s.lo+(q:Int)+1):=λq=>by rw [show((q+1:Nat):Int)=(q:Int)+1 from by omega,<-Int.add_assoc]
   have hu0:rp (zlk ss m i wr sg 0)=[]:=by simp [zlk]
   refine zam (zbr s.lo s.hi).length (λq=>[(2*2,.av (.ptr 2 0)),(2*2+1,.cells 25 [vi most,.sl 7 (ss.map Slip.row),.sl 5 (ms.map SumR.row)]),(2*3,.av (.ptr 3 0)),(2*3+1,.cells 140 [.sl 1 (il wr),.sl 1 (bl sg)]),
    (2*6,.av (.ptr 6 0)),(2*6+1,.cells 36 s.row),(2*7,.av (.own 1000)),(2*1000+1,.buf 2 140 (rp (zlk ss m i wr sg q))),(2*8,.av (vi (s.lo+(q:Int))))]) ?_ ?_
   .exact si
   .intro q hq2;have hUq:=hU q hq2;rcases kae q (zbr s.lo s.hi).length with hlt|hge
    .have hle:s.lo+(q:Int)<=s.hi:=oc
     have hdl:decide (s.lo+(q:Int)<=s.hi)=true:=oa hle
     have hlen1:([]:List (List AV)).length+(il wr).length<=1000000000:=by simp;omega
     have hlen2:(([]:List (List AV))++il wr).length+[[vi (s.lo+(q:Int))]].length<=1000000000:=by simp;omega
     have hlen3:([]:List (List AV)).length+(bl sg).length<=1000000000:=by simp;omega
     have hlen4:∀b,(([]:List (List AV))++bl sg).length+[[vb b]].length<=1000000000:=λb=>by simp;omega
     have hsucc:=z2l ss m i wr sg q (by rw [hg];exact hle);rw [hg] at hsucc;have e1:il (wr++[s.lo+(q:Int)])=([]++il wr)++[[vi (s.lo+(q:Int))]]:=od
     have e2:∀b,bl (sg++[b])=([]++bl sg)++[[vb b]]:=λb=>od
     by_cases hk:s.kind=5
     .have hdk:decide (s.kind=5)=true:=oa hk
      have c1:=ih (i+1) (wr++[s.lo+(q:Int)]) (sg++[false]) (by simp [hw]) oc oy;have c2:=ih (i+1) (wr++[s.lo+(q:Int)]) (sg++[true]) (by simp [hw]) oc oy;rw [e1,e2] at c1 c2;have hR1:=hR (wr++[s.lo+(q:Int)]) (sg++[false]);have hR2:=hR (wr++[s.lo+(q:Int)]) (sg++[true])
      have hlen5:(rp (zlk ss m i wr sg q)).length+(rp (zhu ss m (i+1) (wr++[s.lo+(q:Int)]) (sg++[false]))).length<=1000000000:=by simp;omega
      have hlen6:(rp (zlk ss m i wr sg q)).length+(rp (zhu ss m (i+1) (wr++[s.lo+(q:Int)]) (sg++[true]))).length<=1000000000:=by simp;omega
      have hlen7:(rp (zlk ss m i wr sg q)++rp (zhu ss m (i+1) (wr++[s.lo+(q:Int)]) (sg++[false]))).length+(rp (zhu ss m (i+1) (wr++[s.lo+(q:Int)]) (sg++[true]))).length<=1000000000:=by simp;omega
      have hlenF:=hlen4 false;have hlenT:=hlen4 true;by_cases hs1:s.signed=1
      .have hd1:decide (s.signed=1)=true:=oa hs1
       have hd2:decide (s.signed=2)=false:=by simp [hs1]
       have hS:rp (zlk ss m i wr sg (q+1))=rp (zlk ss m i wr sg q)++rp (zhu ss m (i+1) (wr++[s.lo+(q:Int)]) (sg++[true])):=by rw [hsucc];unfold yck;rw [hg];simp [hk,hs1]
       (repeat' (first|refine sx ?_|(refine aZ ?_;intros)|refine ybc ?_|fail));clear hsucc;refine⟨hlt,?_⟩;refine zbg (rn1 1000 82) ?_ rfl rfl;exact sr
      .have hd1:decide (s.signed=1)=false:=oa hs1
       by_cases hs2:s.signed=2
       .have hd2:decide (s.signed=2)=true:=oa hs2
        have hS:rp (zlk ss m i wr sg (q+1))=rp (zlk ss m i wr sg q)++rp (zhu ss m (i+1) (wr++[s.lo+(q:Int)]) (sg++[false])):=by rw [hsucc];unfold yck;rw [hg];simp [hk,hs2]
        (repeat' (first|refine sx ?_|(refine aZ ?_;intros)|refine ybc ?_|fail));clear hsucc;refine⟨hlt,?_⟩;refine zbg (rn1 1000 67) ?_ rfl rfl;exact sr
       .have hd2:decide (s.signed=2)=false:=oa hs2
        have hS:rp (zlk ss m i wr sg (q+1))=(rp (zlk ss m i wr sg q)++rp (zhu ss m (i+1) (wr++[s.lo+(q:Int)]) (sg++[false])))++rp (zhu ss m (i+1) (wr++[s.lo+(q:Int)]) (sg++[true])):=by rw [hsucc];unfold yck;rw [hg];simp [hk,hs1,hs2]
        (repeat' (first|refine sx ?_|(refine aZ ?_;intros)|refine ybc ?_|fail));clear hsucc;refine⟨hlt,?_⟩;refine zbg (rn1 1000 82) ?_ rfl rfl;exact sr
     .have hdk:decide (s.kind=5)=false:=oa hk
      have hS:rp (zlk ss m i wr sg (q+1))=rp (zlk ss m i wr sg q)++rp (zhu ss m (i+1) (wr++[s.lo+(q:Int)]) sg):=by rw [hsucc];unfold yck;rw [hg,if_pos hk];simp
      have c0:=ih (i+1) (wr++[s.lo+(q:Int)]) sg (by simp [hw]) oc oc;rw [e1] at c0;have hR0:=hR (wr++[s.lo+(q:Int)]) sg;have hlen5:(rp (zlk ss m i wr sg q)).length+(rp (zhu ss m (i+1) (wr++[s.lo+(q:Int)]) sg)).length<=1000000000:=by simp;omega
      (repeat' (first|refine sx ?_|(refine aZ ?_;intros)|refine ybc ?_|fail));clear hsucc;refine⟨hlt,?_⟩;refine zbg (rn1 1000 52) ?_ rfl rfl;exact sr
    .have he:q=(zbr s.lo s.hi).length:=oc
     subst he;have hdl:decide (s.lo+((zbr s.lo s.hi).length:Int)<=s.hi)=false:=decide_eq_false oc;have hfin:=zwv ss m i wr sg;rw [hg] at hfin;(repeat' (first|refine sx ?_|(refine aZ ?_;intros)|refine ybc ?_|fail));refine fe ?_;rw [hfin]
end
end Go.Ab.J
