/- Pieces of a law about sales. Conditions: none. -/
import Derived.Test.YtfgciihkmemdlaaGreatDoorHPh
import Derived.Test.YtfgciihkmemdlaaGreatDoorHPi
import Derived.Test.YtfgciihkmemdlaaGreatDoorHPj
namespace Go.Ab.J
open Go Go.Proofs Go.Kp
theorem yql(ws:List Int)(j:Nat):(zvy ws).getD j 0=ws.getD j 0:=by
 unfold zvy;simp only [kai];rcases kae j ws.length with h|h
 .rw [kam h]
 .rw [kao h,List.getElem?_replicate,kay h];split<;>rfl
theorem yp8(ss:List Slip){n:Nat}(h5:(ss.getD n d7).kind=5):∀k,(zae ss (n+1+k)).getD (zae ss n).length 0=(n:Int)/\(zae ss n).length<(zae ss (n+1+k)).length
 | 0=>by rw [kb1,zuh,if_pos h5];simp
 | k+1=>by obtain⟨h1,h2⟩:=yp8 ss h5 k;rw [show n+1+(k+1)=(n+1+k)+1 by omega,zuh];refine⟨?_,by simp;omega⟩;rw [<-h1];simp only [kai];rw [kam h2]
theorem yqd(ss:List Slip)(N:Nat){a b:Nat}(ha:a<b)(hb:b<(zae ss N).length):(zae ss N).getD a 0<(zae ss N).getD b 0:=by
 have hp:(zae ss N).Pairwise (· < ·):=by unfold zae;rw [List.pairwise_map];exact(List.Pairwise.filter _ List.pairwise_lt_range).imp λh=>oc
 have:=kea.1 hp a b oc hb ha;simpa [kai,hb,kd1 ha hb] using this
theorem yqx(ss:List Slip)(sg:List Bool)(h6:ss.length<=6){i:Nat}(hi:i<(zae ss ss.length).length):∀n,n<=(zae ss ss.length).length->i<n->(sgU (zae ss ss.length) sg n).getD ((zae ss ss.length).getD i 0).toNat false=sg.getD i false
 | 0,_,h=>absurd h oc
 | n+1,hn,h=>by
   have hb:∀j,j<(zae ss ss.length).length->0<=(zae ss ss.length).getD j 0/\(zae ss ss.length).getD j 0<(ss.length:Int):=λj hj=>by refine z5y ss ss.length _ ?_;simp [hj]
   have hl:=ztl (zae ss ss.length) sg n;have b1:=hb i hi;have b2:=hb n oc;rw [sgU];by_cases e:i=n
   .subst e;simp only [kai] at *;rw [kc5 oc];rfl
   .have hlt:=yqd ss ss.length (a:=i) (b:=n) oc oc;have ih:=yqx ss sg h6 hi n oc oc;rw [<-ih];generalize (zae ss ss.length).getD i 0=x at *;generalize (zae ss ss.length).getD n 0=y at *;simp only [kai];rw [kdg oc]
end Go.Ab.J
namespace Go.Ab
open Go Go.Proofs Go.Kp
theorem yqt:(Tryz.prog.info? 4).map (λi=>(i.zero,i.size,i.bytes))=some (some (.bool false),1,1):=by kernel_rfl
theorem yp6:Tryz.prog.underlying 4=some .bool:=by kernel_rfl
theorem yqs:Tryz.prog.cellsOf 4=1:=by kernel_rfl
theorem yqq:Tryz.prog.underlying 102=some (.array 6 4):=by kernel_rfl
theorem yp2(xs:Array Value)(off:Nat)(v:Value)(h:xs[off]?=some v)(w:World):(part 4 xs off).run Tryz.prog w=.ok v w:=by simp [part,isAgg,run_underlying yp6,h]
theorem yp1(d:Nat)(xs ys:Array Value)(i:Nat)(is:List Nat)(x y:Bool)(hx:xs[i]?=some (.bool x))(hy:ys[i]?=some (.bool y))(w:World) :
  (Op.eqItems (d+1) 4 1 xs ys (i::is)).run Tryz.prog w=if x=y then (Op.eqItems (d+1) 4 1 xs ys is).run Tryz.prog w else .ok false w:=by
 simp only [Op.eqItems,Sem.run_bind,kd7,yp2 xs i _ hx,yp2 ys i _ hy,Result.andThen_ok,run_equalIn_bool' w d _ _ _ yp6]
 by_cases h:x=y
 .simp [h]
 .simp [h]
abbrev Sg6:=Bool×Bool×Bool×Bool×Bool×Bool
def b6(l:List Bool):Sg6:=(l.getD 0 false,l.getD 1 false,l.getD 2 false,l.getD 3 false,l.getD 4 false,l.getD 5 false)
def ekB(a:Sg6):Value:=.agg #[.bool a.1,.bool a.2.1,.bool a.2.2.1,.bool a.2.2.2.1,.bool a.2.2.2.2.1,.bool a.2.2.2.2.2]
theorem yqv(d:Nat)(a b:Sg6)(w:World):(Op.equalIn (d+2) 102 (ekB a) (ekB b)).run Tryz.prog w=.ok (decide (a=b)) w:=by
 obtain⟨i0,hi,hz0,hz1,hz2⟩:=info_parts yqt;obtain⟨a0,a1,a2,a3,a4,a5⟩:=a;obtain⟨b0,b1,b2,b3,b4,b5⟩:=b;rw [ekB,ekB,run_equalIn_array w (d+1) _ _ yqq hi,yqs];simp only [List.range,List.range.loop];rw [yp1 d _ _ 0 _ a0 b0 rfl rfl,yp1 d _ _ 1 _ a1 b1 rfl rfl,yp1 d _ _ 2 _ a2 b2 rfl rfl,yp1 d _ _ 3 _ a3 b3 rfl rfl,yp1 d _ _ 4 _ a4 b4 rfl rfl,yp1 d _ _ 5 _ a5 b5 rfl rfl]
 simp only [Op.eqItems,Sem.run_pure];by_cases h0:a0=b0
 .by_cases h1:a1=b1
  .by_cases h2:a2=b2
   .by_cases h3:a3=b3
    .by_cases h4:a4=b4
     .by_cases h5:a5=b5
      .simp [h0,h1,h2,h3,h4,h5]
      .simp [h0,h1,h2,h3,h4,h5]
     .simp [h0,h1,h2,h3,h4]
    .simp [h0,h1,h2,h3]
   .simp [h0,h1,h2]
  .simp [h0,h1]
 .simp [h0]
end Go.Ab
namespace Go.Ab.J
open Go Go.Proofs Go.Kp
variable{G:zbf}{u:Nat->ByteArray}
theorem yq1:Tryz.prog.eqGuardType Tryz.prog.depth 97=false:=by kernel_rfl
theorem yqu:Tryz.prog.eqGuardType Tryz.prog.depth 102=false:=by kernel_rfl
theorem yq7{α:Type}:∀{l:List α},l.length=6->∃a b c d e f,l=[a,b,c,d,e,f]
 | [a,b,c,d,e,f],_=>⟨a,b,c,d,e,f,rfl⟩
theorem yqe{E:Env}{w:World}{l:List Int}{v:Value}(h:Rep E w (.agg (amL l)) v):v=ekA (t6 l):=by
 cases h with
 | agg xs vs hl h =>obtain⟨x0,x1,x2,x3,x4,x5,rfl⟩:∃a b c d e f,vs=[a,b,c,d,e,f]:=yq7 hl.symm;have h0:=(h 0 _ x0 rfl rfl).val_eq;have h1:=(h 1 _ x1 rfl rfl).val_eq;have h2:=(h 2 _ x2 rfl rfl).val_eq;have h3:=(h 3 _ x3 rfl rfl).val_eq;have h4:=(h 4 _ x4 rfl rfl).val_eq;have h5:=(h 5 _ x5 rfl rfl).val_eq;rw [h0,h1,h2,h3,h4,h5];rfl
theorem yp5{E:Env}{w:World}{l:List Bool}{v:Value}(h:Rep E w (.agg (sgL l)) v):v=ekB (b6 l):=by
 cases h with
 | agg xs vs hl h =>obtain⟨x0,x1,x2,x3,x4,x5,rfl⟩:∃a b c d e f,vs=[a,b,c,d,e,f]:=yq7 hl.symm;have h0:=(h 0 _ x0 rfl rfl).val_eq;have h1:=(h 1 _ x1 rfl rfl).val_eq;have h2:=(h 2 _ x2 rfl rfl).val_eq;have h3:=(h 3 _ x3 rfl rfl).val_eq;have h4:=(h 4 _ x4 rfl rfl).val_eq;have h5:=(h 5 _ x5 rfl rfl).val_eq;rw [h0,h1,h2,h3,h4,h5];rfl
theorem yqi(a:Am6):za3 (ekA a):=.agg _ λv hv=>by simp at hv;rcases hv with rfl|rfl|rfl|rfl|rfl|rfl<;>constructor
theorem yqb(a:Sg6):za3 (ekB a):=.agg _ λv hv=>by simp at hv;rcases hv with rfl|rfl|rfl|rfl|rfl|rfl<;>constructor
theorem yq3(a b:Am6)(w:World):(Op.equal 97 (ekA a) (ekA b)).run Tryz.prog w=.ok (decide (a=b)) w:=z17 9998 a b w
theorem yqw(a b:Sg6)(w:World):(Op.equal 102 (ekB a) (ekB b)).run Tryz.prog w=.ok (decide (a=b)) w:=yqv 9998 a b w
section
variable{s:AS}{N d:Nat}{x y:Operand}{t' ty:TypeId}{pos:String}{af:Array Edge}{g:Option (Nat×Bool)}{R:List Nat}{dd:Option Nat}
theorem a_arr{l l':List Int}(hd:d<N)(hx:ev s x=some (.agg (amL l)))(hy:ev s y=some (.agg (amL l'))) :
  AOp (cx G) N ⟨some d,.binOp .eql 97 x y t',ty,pos,af,g⟩ (rds x++rds y) s [(2*d,.av (vb (decide (t6 l=t6 l'))))] :=
 zau hd λw0 E s' a w hR hr=>by have e1:=yqe (hr.ev (zat hR (λ_ h=>by simp [h]) hx));have e2:=yqe (hr.ev (zat hR (λ_ h=>by simp [h]) hy));refine⟨.bool _,?_,.val _,by simp [AV.ids]⟩;have hP:(cx G).P=Tryz.prog:=rfl;have he:=λw=>yq3 (t6 l) (t6 l') w;simp only [ekA] at he e1 e2;simp [execOp,e1,e2,eqGuard,binOp,he,hP]
theorem yrt{l l':List Bool}(hd:d<N)(hx:ev s x=some (.agg (sgL l)))(hy:ev s y=some (.agg (sgL l'))) :
  AOp (cx G) N ⟨some d,.binOp .eql 102 x y t',ty,pos,af,g⟩ (rds x++rds y) s [(2*d,.av (vb (decide (b6 l=b6 l'))))] :=
 zau hd λw0 E s' a w hR hr=>by have e1:=yp5 (hr.ev (zat hR (λ_ h=>by simp [h]) hx));have e2:=yp5 (hr.ev (zat hR (λ_ h=>by simp [h]) hy));refine⟨.bool _,?_,.val _,by simp [AV.ids]⟩;have hP:(cx G).P=Tryz.prog:=rfl;have he:=λw=>yqw (b6 l) (b6 l') w;simp only [ekB] at he e1 e2;simp [execOp,e1,e2,eqGuard,binOp,he,hP]
theorem f_arr{l l':List Int}(hx:ev s x=some (.agg (amL l)))(hy:ev s y=some (.agg (amL l')))(hs:zly (rds x++rds y) R=true) :
  AFt (cx G) ⟨dd,.binOp .eql 97 x y t',ty,pos,af,g⟩ R s:=λN w0 E s' a w hR hr=>by
 have hR:=agr hR hs
 have e1:=yqe (hr.ev ((zas λr h=>hR r oo).trans hx))
 have e2:=yqe (hr.ev ((zas λr h=>hR r oo).trans hy))
 have h1:za3 (a.eval x):=by rw [e1];exact yqi _
 have h2:za3 (a.eval y):=by rw [e2];exact yqi _
 refine zjc ?_
 rw [ft_bind];exact zoo _ _ _ _ _ _ h1 h2 (zwe _ _ _ _ h1 h2 λ_=>trivial)
theorem yrq{l l':List Bool}(hx:ev s x=some (.agg (sgL l)))(hy:ev s y=some (.agg (sgL l')))(hs:zly (rds x++rds y) R=true) :
  AFt (cx G) ⟨dd,.binOp .eql 102 x y t',ty,pos,af,g⟩ R s:=λN w0 E s' a w hR hr=>by
 have hR:=agr hR hs
 have e1:=yp5 (hr.ev ((zas λr h=>hR r oo).trans hx))
 have e2:=yp5 (hr.ev ((zas λr h=>hR r oo).trans hy))
 have h1:za3 (a.eval x):=by rw [e1];exact yqb _
 have h2:za3 (a.eval y):=by rw [e2];exact yqb _
 refine zjc ?_
 rw [ft_bind];exact zoo _ _ _ _ _ _ h1 h2 (zwe _ _ _ _ h1 h2 λ_=>trivial)
end
def knW(ss:List Slip)(wr:List Int):Nat->List Int
 | 0=>wr
 | n+1=>(knW ss wr n).set n (min (max (wr.getD n 0) (ss.getD n d7).lo) (ss.getD n d7).hi)
def knS(ss:List Slip)(sg:List Bool):Nat->List Bool
 | 0=>sg
 | n+1=>(knS ss sg n).set n (if (ss.getD n d7).signed=1 then true else if (ss.getD n d7).signed=0 then sg.getD n false else false)
theorem yqz(ss:List Slip)(wr:List Int):∀n,(knW ss wr n).length=wr.length
 | 0=>rfl
 | n+1=>by rw [knW,kcz,yqz ss wr n]
theorem yq0(ss:List Slip)(sg:List Bool):∀n,(knS ss sg n).length=sg.length
 | 0=>rfl
 | n+1=>by rw [knS,kcz,yq0 ss sg n]
def yrp(most:Int)(ss:List Slip)(ms:List SumR)(ws:List Int)(sg:List Bool):Bool :=
 if (zcp most ss ms ws sg).2≠0 then false else
  decide (t6 (knW ss (zcp most ss ms ws sg).1.1 ss.length)=t6 (zcp most ss ms ws sg).1.1)&&(decide (b6 (knS ss (zcp most ss ms ws sg).1.2 ss.length)=b6 (zcp most ss ms ws sg).1.2)&&zeh most ss ms (zc0 ss (zcp most ss ms ws sg).1))
theorem yrf(ss:List Slip)(p:zd6)(h1:p.1.length=6)(h2:p.2.length=6){i:Nat}(hi:i<6):psL (knW ss p.1 (i+1),knS ss p.2 (i+1))=((psL (knW ss p.1 i,knS ss p.2 i)).set (0+i*1) (vi (min (max (p.1.getD i 0) (ss.getD i d7).lo) (ss.getD i d7).hi))).set (6+i*1) (vb (if (ss.getD i d7).signed=1 then true else if (ss.getD i d7).signed=0 then p.2.getD i false else false)):=by
 have l1:=yqz ss p.1 i;have l2:=yq0 ss p.2 i;rw [knW,knS];generalize knW ss p.1 i=A at *;generalize knS ss p.2 i=B at *;obtain⟨x0,x1,x2,x3,x4,x5,rfl⟩:=yq7 (l1.trans h1);obtain⟨y0,y1,y2,y3,y4,y5,rfl⟩:=yq7 (l2.trans h2);rcases lt6 hi with rfl|rfl|rfl|rfl|rfl|rfl<;>rfl
attribute [local irreducible] AOp AW ADr AFn ze1 AFt AOpJ
set_option maxRecDepth 20000
set_option maxHeartbeats 8000000
def LpI(u:Nat->ByteArray)(Q:Exit->AS->Prop)(s:AS):Prop:=∀c,(Tryz.f27.body.bind yj2)=some c->AW (cx (zch u)) none Tryz.f27.ntmps c Q s
theorem yqy{Q:Exit->AS->Prop}{s:AS}{c:Code}{N:Nat}(e:(Tryz.f27.body.bind yj2)=some c)(hN:Tryz.f27.ntmps=N)(h:AW (cx (zch u)) none N c Q s):LpI u Q s:=λc' e'=>by subst hN;exact kaw (e.symm.trans e')▸h
abbrev stI(most:Int)(ss:List Slip)(ms:List SumR)(p:zd6)(W:List Int)(S:List Bool)(i:Nat):AS:=[(2*3,.av (.ptr 3 0)),(2*3+1,.cells 25 [vi most,.sl 7 (ss.map Slip.row),.sl 5 (ms.map SumR.row)]),(2*26,.av (.sl 7 (ss.map Slip.row))),(2*27,.av (vi ((ss.map Slip.row).length:Int))),(2*8,.av (.ptr 8 0)),(2*8+1,.cells 104 (psL p)),(2*10,.av (.ptr 10 0)),(2*10+1,.cells 104 (psL (W,S))),(2*28,.av (vi i))]
theorem eha0{G:Prop}(h:G:=by((repeat' (first|refine sy ?_|(refine aZ ?_;intros)|refine w0 ?_|fail));exact si)):G:=h
theorem yrl{most:Int}{ss:List Slip}{ms:List SumR}{p:zd6}{W W2:List Int}{S S2:List Bool}{i:Nat}{s:Slip}(hlt:i<ss.length)(hi6:i<6)(hs:ss[i]?=some s){P:AS->Prop}{Q:Exit->AS->Prop}(h1:s.signed=1)(hsucc:psL (W2,S2)=((psL (W,S)).set (0+i*1) (vi (min (max (p.1.getD i 0) s.lo) s.hi))).set (6+i*1) (vb true))(hP:∀s',Sub (zch u) Tryz.f27.ntmps s' (stI most ss ms p W2 S2 (i+1))->P s'):LpI u (zii P Q) (stI most ss ms p W S i):=by
 have hrow:(ss.map Slip.row)[i]?=some s.row:=by simp [hs]
 have hil:i<(ss.map Slip.row).length:=by simp;omega
 have hd:decide ((i:Int)<((ss.map Slip.row).length:Int))=true:=by simp;omega
 have hx1:=z9y p hi6;have hx2:=zvw p hi6;have hy1:0+i*1<(psL (W,S)).length:=by show 0+i*1<12;omega
 have hy2:6+i*1<((psL (W,S)).set (0+i*1) (vi (min (max (p.1.getD i 0) s.lo) s.hi))).length:=by rw [kcz];show 6+i*1<12;omega
 have hi1:vi ((i+1:Nat):Int)=vi ((i:Int)+1):=od
 have hd1:decide (s.signed=1)=true:=decide_eq_true h1;refine yqy rfl rfl ?_;unfold stI at hP |-;exact eha0
theorem yrk{most:Int}{ss:List Slip}{ms:List SumR}{p:zd6}{W W2:List Int}{S S2:List Bool}{i:Nat}{s:Slip}(hlt:i<ss.length)(hi6:i<6)(hs:ss[i]?=some s){P:AS->Prop}{Q:Exit->AS->Prop}(h1:¬s.signed=1)(h0:s.signed=0)(hsucc:psL (W2,S2)=((psL (W,S)).set (0+i*1) (vi (min (max (p.1.getD i 0) s.lo) s.hi))).set (6+i*1) (vb (p.2.getD i false)))(hP:∀s',Sub (zch u) Tryz.f27.ntmps s' (stI most ss ms p W2 S2 (i+1))->P s'):LpI u (zii P Q) (stI most ss ms p W S i):=by
 have hrow:(ss.map Slip.row)[i]?=some s.row:=by simp [hs]
 have hil:i<(ss.map Slip.row).length:=by simp;omega
 have hd:decide ((i:Int)<((ss.map Slip.row).length:Int))=true:=by simp;omega
 have hx1:=z9y p hi6;have hx2:=zvw p hi6;have hy1:0+i*1<(psL (W,S)).length:=by show 0+i*1<12;omega
 have hy2:6+i*1<((psL (W,S)).set (0+i*1) (vi (min (max (p.1.getD i 0) s.lo) s.hi))).length:=by rw [kcz];show 6+i*1<12;omega
 have hi1:vi ((i+1:Nat):Int)=vi ((i:Int)+1):=od
 have hd1:decide (s.signed=1)=false:=decide_eq_false h1;have hd0:decide (s.signed=0)=true:=decide_eq_true h0;refine yqy rfl rfl ?_;unfold stI at hP |-;exact eha0
theorem yrj{most:Int}{ss:List Slip}{ms:List SumR}{p:zd6}{W W2:List Int}{S S2:List Bool}{i:Nat}{s:Slip}(hlt:i<ss.length)(hi6:i<6)(hs:ss[i]?=some s){P:AS->Prop}{Q:Exit->AS->Prop}(h1:¬s.signed=1)(h0:¬s.signed=0)(hsucc:psL (W2,S2)=((psL (W,S)).set (0+i*1) (vi (min (max (p.1.getD i 0) s.lo) s.hi))).set (6+i*1) (vb false))(hP:∀s',Sub (zch u) Tryz.f27.ntmps s' (stI most ss ms p W2 S2 (i+1))->P s'):LpI u (zii P Q) (stI most ss ms p W S i):=by
 have hrow:(ss.map Slip.row)[i]?=some s.row:=by simp [hs]
 have hil:i<(ss.map Slip.row).length:=by simp;omega
 have hd:decide ((i:Int)<((ss.map Slip.row).length:Int))=true:=by simp;omega
 have hx1:=z9y p hi6;have hx2:=zvw p hi6;have hy1:0+i*1<(psL (W,S)).length:=by show 0+i*1<12;omega
 have hy2:6+i*1<((psL (W,S)).set (0+i*1) (vi (min (max (p.1.getD i 0) s.lo) s.hi))).length:=by rw [kcz];show 6+i*1<12;omega
 have hi1:vi ((i+1:Nat):Int)=vi ((i:Int)+1):=od
 have hd1:decide (s.signed=1)=false:=decide_eq_false h1;have hd0:decide (s.signed=0)=false:=decide_eq_false h0;refine yqy rfl rfl ?_;unfold stI at hP |-;exact eha0
theorem cha0{P G:Prop}(n:P)(h:Wr P->G:=by(intro n;first|((with_reducible apply kC);first|exact gB ⟨_,hpl,.mk rfl n.p⟩|exact gB ⟨_,hno,.mk rfl n.p⟩|exact gB ⟨_,hag,.mk rfl n.p⟩|exact gK n.p|exact gS n.p)|exact⟨_,hpl,n.p⟩|exact⟨_,hno,n.p⟩|exact⟨_,hag,n.p⟩|exact sk n.p|exact ap n.p)):G:=h ⟨n⟩
theorem eha1{G:Prop}(h:G:=by((repeat' (first|(refine g1 ?_ om ⟨a_arr oe rfl rfl,f_arr rfl rfl rfl⟩)|(refine g1 ?_ om ⟨yrt oe rfl rfl,yrq rfl rfl rfl⟩) |refine sy ?_|(refine aZ ?_;intros)|refine cha0 ?_|(refine s2 ?_ ?_<;>intro h7<;>try omega)));refine fe ?_;rfl)):G:=h
theorem yq9(most:Int)(ss:List Slip)(ms:List SumR)(ws:List Int)(sg:List Bool)(hn:ss.length<=20)(hm:ms.length<=20)(hwl:ws.length<=100000) :
  AFn (cx (zch u)) 27 [bk most ss ms,.sl 1 (il ws),.sl 1 (bl sg)] (.tup [vb (yrp most ss ms ws sg),vi (zcp most ss ms ws sg).2]):=by
 refine aby Tryz.func27 Tryz.ntmps27 λQ hQ=>?_
 have hpl:=z7s (u:=u) most ss ms ws sg hn hm hwl
 by_cases hz:(zcp most ss ms ws sg).2=0
 case neg =>
  have hdz:(!decide ((zcp most ss ms ws sg).2=0))=true:=oa hz
  have hI:yrp most ss ms ws sg=false:=if_pos hz;rw [hI] at hQ;generalize zcp most ss ms ws sg=PF at *;exact eha1
 have hdz:(!decide ((zcp most ss ms ws sg).2=0))=false:=oa hz
 obtain⟨hg,hab,hwn,_,_,hpe⟩:=z4z hz
 have hno:=zx3 (G:=zch u) most ss ms (zcp most ss ms ws sg).1 hg.nss hg.for5
 have hag:=zsw (u:=u) most ss ms (zc0 ss (zcp most ss ms ws sg).1) hg.bok hab
 have hI:yrp most ss ms ws sg=(decide (t6 (knW ss (zcp most ss ms ws sg).1.1 ss.length)=t6 (zcp most ss ms ws sg).1.1)&&(decide (b6 (knS ss (zcp most ss ms ws sg).1.2 ss.length)=b6 (zcp most ss ms ws sg).1.2)&&zeh most ss ms (zc0 ss (zcp most ss ms ws sg).1))):=if_neg (oa hz)
 have p1:(zcp most ss ms ws sg).1.1.length=6:=by rw [hpe];simp only [zvy,kbx,List.length_replicate];have:=hg.nss;omega
 have p2:(zcp most ss ms ws sg).1.2.length=6:=by rw [hpe];exact ztl _ _ _
 have n6:=hg.nss
 rw [hI] at hQ
 clear hI hpe
 change AFn _ _ _ (.agg (amL (zc0 ss (zcp most ss ms ws sg).1))) at hno
 generalize zeh most ss ms (zc0 ss (zcp most ss ms ws sg).1)=AG at *
 generalize zc0 ss (zcp most ss ms ws sg).1=NW at *
 generalize zcp most ss ms ws sg=PF at *
 obtain⟨p,z⟩:=PF
 obtain rfl:z=0:=hz
 dsimp only at p1 p2 hdz hno hpl hQ
 (repeat' (first|refine sy ?_|(refine aZ ?_;intros)|refine cha0 ?_|fail))
 refine zam ss.length (λi=>stI most ss ms p (knW ss p.1 i) (knS ss p.2 i) i) ?_ ?_
 .exact si
 .intro i hi;rcases kae i ss.length with hlt|hge
  .obtain⟨s,hs⟩:∃s,ss[i]?=some s:=⟨_,kaa oc⟩;have hg:ss.getD i d7=s:=by simp [hs]
   have hi6:i<6:=oc
   have hsucc:=yrf ss p p1 p2 hi6;rw [hg] at hsucc;by_cases h1:s.signed=1
   .rw [if_pos h1] at hsucc;exact yrl hlt hi6 hs h1 hsucc (λs' h=>⟨hlt,h⟩) _ rfl
   .rw [if_neg h1] at hsucc;by_cases h0:s.signed=0
    .rw [if_pos h0] at hsucc;exact yrk hlt hi6 hs h1 h0 hsucc (λs' h=>⟨hlt,h⟩) _ rfl
    .rw [if_neg h0] at hsucc;exact yrj hlt hi6 hs h1 h0 hsucc (λs' h=>⟨hlt,h⟩) _ rfl
  .have he:i=ss.length:=oc
   subst he;have hd:decide ((ss.length:Int)<((ss.map Slip.row).length:Int))=false:=od
   cases e1:decide (t6 (knW ss p.1 ss.length)=t6 p.1)
   .rw [e1,Bool.false_and] at hQ;exact eha1
   .cases e2:decide (b6 (knS ss p.2 ss.length)=b6 p.2)
    .rw [e1,e2,Bool.true_and,Bool.false_and] at hQ;exact eha1
    .rw [e1,e2,Bool.true_and,Bool.true_and] at hQ;exact eha1
end Go.Ab.J
namespace Go.Ab.J
open Go Go.Proofs Go.Kp
theorem yqr(l:List Int):(yls l).length<=l.length:=yqf l l.length
theorem yp9(ss:List Slip)(ms:List SumR)(am:List Int):(zan ss ms am).length<=ms.length:=by unfold zan zao;rw [ka6];exact kak (kbc _ _) od
theorem yp3{α:Type}(l:List α)(n:Nat)(d:α)(h:n<l.length):l.set n (l.getD n d)=l:=by
 apply kc0;intro j;rw [kdc];split
 .rename_i e;subst e;simp [h]
 .rfl
theorem yqn(ss:List Slip)(wr:List Int):∀n,n<=wr.length->(∀j,j<n->(ss.getD j d7).lo<=wr.getD j 0/\wr.getD j 0<=(ss.getD j d7).hi)->knW ss wr n=wr
 | 0,_,_=>rfl
 | n+1,hl,h=>by have hh:=h n oc;rw [knW,yqn ss wr n oc λj hj=>h j oc,show min (max (wr.getD n 0) (ss.getD n d7).lo) (ss.getD n d7).hi=wr.getD n 0 by omega];exact yp3 _ _ _ oc
theorem yqo(ss:List Slip)(sg:List Bool):∀n,n<=sg.length->(∀j,j<n->((ss.getD j d7).signed=1->sg.getD j false=true)/\((ss.getD j d7).signed≠1->(ss.getD j d7).signed≠0->sg.getD j false=false))->knS ss sg n=sg
 | 0,_,_=>rfl
 | n+1,hl,h=>by
   obtain⟨h1,h2⟩:=h n oc;rw [knS,yqo ss sg n oc λj hj=>h j oc];have e:(if (ss.getD n d7).signed=1 then true else if (ss.getD n d7).signed=0 then sg.getD n false else false)=sg.getD n false:=by
    split
    .rename_i e;exact(h1 e).symm
    .rename_i e;split
     .rfl
     .rename_i e2;exact(h2 e e2).symm
   rw [e];exact yp3 _ _ _ oc
def yt1(ss:List Slip)(ws:List Int)(sg:List Bool):Int:=if ws.length≠ss.length then 2 else if ws.any z0e=true then 1 else if sg.length≠(zae ss ss.length).length then 2 else 0
def yt0(most:Int)(ss:List Slip)(ms:List SumR)(ws:List Int)(sg:List Bool):Int:=if zak most ss ms≠0 then zak most ss ms else yt1 ss ws sg
theorem yt4(most:Int)(ss:List Slip)(ms:List SumR)(ws:List Int)(sg:List Bool):(zcp most ss ms ws sg).2=yt0 most ss ms ws sg:=by
 unfold zcp yt0 yt1;by_cases h1:zak most ss ms=0
 .by_cases h2:ws.length=ss.length
  .by_cases h3:ws.any z0e=true
   .simp [h1,h2,h3]
   .by_cases h4:sg.length=(zae ss ss.length).length
    .simp [h1,h2,h3,h4]
    .simp [h1,h2,h3,h4]
  .simp [h1,h2]
 .simp [h1]
structure yul(most:Int)(ss:List Slip)(ms:List SumR)(ws:List Int)(sg:List Bool):Prop where
 good:Good most ss ms
 wl:ws.length=ss.length
 wb:ws.any z0e=false
 sl:sg.length=(zae ss ss.length).length
theorem yt3{most:Int}{ss:List Slip}{ms:List SumR}{ws:List Int}{sg:List Bool}(h:yt0 most ss ms ws sg=0):yul most ss ms ws sg:=by
 unfold yt0 yt1 at h;by_cases h1:zak most ss ms=0
 .rw [if_neg (by simp [h1])] at h;by_cases h2:ws.length=ss.length
  .rw [if_neg (by simp [h2])] at h;by_cases h3:ws.any z0e=true
   .rw [if_pos h3] at h;cases h
   .rw [if_neg h3] at h;by_cases h4:sg.length=(zae ss ss.length).length
    .exact⟨(za2 _ _ _).1 h1,h2,oa h3,h4⟩
    .rw [if_pos h4] at h;cases h
  .rw [if_pos h2] at h;cases h
 .rw [if_pos h1] at h;exact absurd h h1
abbrev yua(ss:List Slip)(ws:List Int)(sg:List Bool):zd6:=(zvy ws,sgU (zae ss ss.length) sg (zae ss ss.length).length)
theorem yt8{most:Int}{ss:List Slip}{ms:List SumR}{ws:List Int}{sg:List Bool}(h:yul most ss ms ws sg):zcp most ss ms ws sg=(yua ss ws sg,0):=by have c:=(za2 _ _ _).2 h.good;unfold zcp;rw [if_neg (by simp [c]),if_neg (by simp [h.wl]),if_neg (by simp [h.wb]),if_neg (by simp [h.sl])]
section
variable{most:Int}{ss:List Slip}{ms:List SumR}{ws:List Int}{sg:List Bool}(h:yul most ss ms ws sg)
include h
theorem yub:(zvy ws).length=6:=by have:=h.good.nss;have:=h.wl;simp [zvy];omega
theorem yud:toR ss (yua ss ws sg)=(ws,sg):=by
 have h6:=h.good.nss;refine Prod.ext ?_ ?_
 .show(zvy ws).take ss.length=ws;rw [zvy,List.take_left' h.wl]
 .show sgR ss _ _=sg;refine kc0 λi=>?_;unfold sgR;rw [kaq];rcases kae i (zae ss ss.length).length with hi|hi
  .have e:=yqx ss sg h6 hi _ (kac _) hi;have g:(zae ss ss.length)[i]?=some ((zae ss ss.length).getD i 0):=by simp [hi]
   rw [g,kcc,e];have hs:i<sg.length:=by rw [h.sl];exact hi
   simp [hs]
  .rw [kay hi,kay (by rw [h.sl];exact hi)];rfl
theorem yuy:(zc0 ss (yua ss ws sg)).take ss.length=zc7 ss (ws,sg):=by
 have h6:=h.good.nss;have e:=zmb h.good (yua ss ws sg) (yub h);rw [yud h] at e;refine kc0 λj=>?_;have l1:(zc0 ss (yua ss ws sg)).length=6:=zfy _ _ _ _;have l2:=zb6 ss (ws,sg);have:=e j;rcases kae j ss.length with hj|hj
 .rw [ka5,if_pos hj,kaa oc,kaa oc];simp only [kai] at this;rw [kaa oc,kaa oc] at this;exact congrArg some (oa this)
 .rw [ka5,if_neg oc,kay oc]
theorem yt6:zan ss ms (zc0 ss (yua ss ws sg))=zan ss ms (zc7 ss (ws,sg)):=by have e:=zmb h.good (yua ss ws sg) (yub h);rw [yud h] at e;exact zhx ss ms e
end
theorem yux(most:Int)(ss:List Slip)(ms:List SumR)(ws:List Int)(sg:List Bool):zxt most ss ms ws sg=if yt0 most ss ms ws sg≠0 then [] else zc7 ss (ws,sg):=by
 unfold zxt;rw [yt4];split
 .rfl
 .rename_i h;have hp:=yt3 (Decidable.not_not.1 h);rw [yt8 hp];exact yuy hp
theorem yuw(most:Int)(ss:List Slip)(ms:List SumR)(ws:List Int)(sg:List Bool):zxs most ss ms ws sg=if yt0 most ss ms ws sg≠0 then [] else zan ss ms (zc7 ss (ws,sg)):=by
 unfold zxs;rw [yt4];split
 .rfl
 .rename_i h;have hp:=yt3 (Decidable.not_not.1 h);rw [yt8 hp];exact yt6 hp
theorem yur(ss:List Slip)(wr:List Int):∀n,n<=wr.length->∀i,(knW ss wr n).getD i 0=if i<n then min (max (wr.getD i 0) (ss.getD i d7).lo) (ss.getD i d7).hi else wr.getD i 0
 | 0,_,i=>by simp [knW]
 | n+1,hl,i=>by
   have ih:=yur ss wr n oc i;rw [knW,zew _ _ _ _ _ (by rw [yqz];omega)];by_cases e:i=n
   .rw [if_pos e,if_pos (show i<n+1 by omega),e]
   .rw [if_neg e,ih];by_cases h:i<n
    .rw [if_pos h,if_pos (show i<n+1 by omega)]
    .rw [if_neg h,if_neg (show ¬i<n+1 by omega)]
theorem yus(ss:List Slip)(sg:List Bool):∀n,n<=sg.length->∀i,(knS ss sg n).getD i false=if i<n then (if (ss.getD i d7).signed=1 then true else if (ss.getD i d7).signed=0 then sg.getD i false else false) else sg.getD i false
 | 0,_,i=>by simp [knS]
 | n+1,hl,i=>by
   have ih:=yus ss sg n oc i;rw [knS,zew _ _ _ _ _ (by rw [yq0];omega)];by_cases e:i=n
   .rw [if_pos e,if_pos (show i<n+1 by omega),e]
   .rw [if_neg e,ih];by_cases h:i<n
    .rw [if_pos h,if_pos (show i<n+1 by omega)]
    .rw [if_neg h,if_neg (show ¬i<n+1 by omega)]
theorem yu5{a b:List Int}(h:t6 a=t6 b){i:Nat}(hi:i<6):a.getD i 0=b.getD i 0:=by simp only [t6,Prod.mk.injEq] at h;obtain⟨h0,h1,h2,h3,h4,h5⟩:=h;rcases lt6 hi with rfl|rfl|rfl|rfl|rfl|rfl<;>assumption
theorem yva{a b:List Bool}(h:b6 a=b6 b){i:Nat}(hi:i<6):a.getD i false=b.getD i false:=by simp only [b6,Prod.mk.injEq] at h;obtain⟨h0,h1,h2,h3,h4,h5⟩:=h;rcases lt6 hi with rfl|rfl|rfl|rfl|rfl|rfl<;>assumption
theorem yvc{most:Int}{ss:List Slip}{ms:List SumR}{ws:List Int}{sg:List Bool}(h:yul most ss ms ws sg):zeh most ss ms (zc0 ss (yua ss ws sg))=(zf9 ss (zc7 ss (ws,sg))&&decide (((zan ss ms (zc7 ss (ws,sg))).length:Int)<=most)&&!zse ms (zan ss ms (zc7 ss (ws,sg)))):=by
 have e:=zmb h.good (yua ss ws sg) (yub h);rw [yud h] at e;have hab:zhn (zvy ws):=z91 (by have:=h.wl;have:=h.good.nss;omega) h.wb;have hok:=zh6 ss (zvy ws) (sgU (zae ss ss.length) sg (zae ss ss.length).length) hab ss.length;unfold zeh;rw [yt6 h,zr2 h.good e (zb6 _ _) (λj=>(hok j).1),zwh];cases zf9 ss (zc7 ss (ws,sg))<;>simp [Bool.and_comm]
theorem yu8(most:Int)(ss:List Slip)(ms:List SumR)(ws:List Int)(sg:List Bool):yrp most ss ms ws sg=if yt0 most ss ms ws sg≠0 then false else zdk most ss ms (ws,sg):=by
 unfold yrp;rw [yt4];by_cases hz:yt0 most ss ms ws sg=0;case neg=>rw [if_pos hz,if_pos hz]
 have h:=yt3 hz;have h6:=h.good.nss;have lW:=yub h;have lS:=ztl (zae ss ss.length) sg (zae ss ss.length).length;rw [if_neg (by simp [hz]),if_neg (by simp [hz]),yt8 h];dsimp only;rw [yvc h];unfold zdk;have eW:∀i,i<ss.length->(zvy ws).getD i 0=ws.getD i 0:=λi _=>yql ws i
 have eS:∀i,i<ss.length->(ss.getD i d7).kind=5->(sgU (zae ss ss.length) sg (zae ss ss.length).length).getD i false=sg.getD (zae ss i).length false:=λi hi h5=>by obtain⟨a1,a2⟩:=yp8 ss h5 (ss.length-(i+1));rw [show i+1+(ss.length-(i+1))=ss.length by omega] at a1 a2;have h1:=yqx ss sg h6 a2 _ (kac _) a2;rwa [a1,kb9] at h1
 have key:(decide (t6 (knW ss (zvy ws) ss.length)=t6 (zvy ws))&&decide (b6 (knS ss (sgU (zae ss ss.length) sg (zae ss ss.length).length) ss.length)=b6 (sgU (zae ss ss.length) sg (zae ss ss.length).length)))=zxr ss ws sg:=by
  rw [Bool.eq_iff_iff];simp only [ka0,decide_eq_true_eq,zxr,kar,ka3,zrm,kc1,kb7,decide_eq_false_iff_not,beq_iff_eq];constructor
  .rintro⟨h1,h2⟩ i hi;have g1:=yu5 h1 (show i<6 by omega);have g2:=yva h2 (show i<6 by omega);rw [yur _ _ _ oc,if_pos hi,eW i hi] at g1;rw [yus _ _ _ oc,if_pos hi] at g2;have ha:=(zld h.good hi).amt;refine⟨oc,?_⟩;by_cases h5:(ss.getD i d7).kind=5
   .rw [eS i hi h5] at g2;by_cases s0:(ss.getD i d7).signed=0
    .exact .inl (.inr s0)
    .refine .inr ?_;by_cases s1:(ss.getD i d7).signed=1
     .rw [if_pos s1] at g2;rw [<-g2,s1];rfl
     .rw [if_neg s1,if_neg s0] at g2;rw [<-g2,decide_eq_false s1]
   .exact .inl (.inl h5)
  .intro hh;refine⟨?_,?_⟩
   .congr 1;refine yqn ss _ _ oc λj hj=>?_;rw [eW j hj];exact(hh j hj).1
   .congr 1;refine yqo ss _ _ oc λj hj=>?_;obtain⟨_,h2⟩:=hh j hj;by_cases h5:(ss.getD j d7).kind=5
    .rw [eS j hj h5];refine⟨λs1=>?_,λs1 s0=>?_⟩
     .rcases h2 with (h2|h2)|h2
      .exact absurd h5 h2
      .omega
      .rw [<-h2,s1];rfl
     .rcases h2 with (h2|h2)|h2
      .exact absurd h5 h2
      .exact absurd h2 s0
      .rw [<-h2,decide_eq_false s1]
    .have:=yap h.good j hj h5;exact⟨λs1=>oc,λ_ s0=>absurd this s0⟩
 rw [<-key];simp only [Bool.and_assoc]
section
variable{G:zbf}{u:Nat->ByteArray}
attribute [local irreducible] AOp AW ADr AFn ze1 AFt AOpJ
set_option maxRecDepth 20000
set_option maxHeartbeats 8000000
theorem eyn5{G:Prop}(h:G:=by((repeat' (first|refine sx ?_|(refine aZ ?_;intros)|refine w0 ?_|fail));refine fe ?_;rw [hF])):G:=h
theorem yt9(l:List Int)(x:Int)(hl:l.length<=100000):AFn (cx G) 101 [.sl 1 (il l),vi x] (vi (yan x l)):=by
 refine aby Tryz.func101 Tryz.ntmps101 λQ hQ=>?_;(repeat' (first|refine sx ?_|(refine aZ ?_;intros)|refine w0 ?_|fail));refine zbe l.length (λi=>∀j,j<i->l.getD j 0≠x) (λi=>[(2*0,.av (.sl 1 (il l))),(2*1,.av (vi x)),(2*5,.av (vi i))]) (λj hj=>oc) ?_ ?_
 .exact si
 .intro i hi hP;rcases kae i l.length with hlt|hge
  .obtain⟨z,hz⟩:∃z,l[i]?=some z:=⟨_,kaa hlt⟩;have hzr:(il l)[i]?=some [vi z]:=zcm hz;have hzl:i<(il l).length:=by simp;omega
   have hgz:l.getD i 0=z:=by simp [hz]
   have hd:decide ((i:Int)<((il l).length:Int))=true:=by simp;omega
   by_cases hx:z=x
   .have hdx:decide (z=x)=true:=oa hx
    have hF:yan x l=(i:Int):=by
     have:l.findIdx? (λy=>decide (x=y))=some i:=by
      rw [kbk];refine⟨hlt,?_,λj hj=>?_⟩
      .rw [kaa hlt,kap] at hz;simp [hz,hx]
      .have:=hP j hj;rw [kai,kaa oc] at this;simpa using λh=>this h.symm
     simp [yan,this]
    exact eyn5
   .have hdx:decide (z=x)=false:=oa hx
    (repeat' (first|refine sx ?_|(refine aZ ?_;intros)|refine w0 ?_|fail));refine⟨hlt,λj hj=>?_,?_⟩
    .rcases kae j i with h|h
     .exact hP j h
     .have:j=i:=oc
      subst this;rw [hgz];exact hx
    .exact si
  .have he:i=l.length:=oc
   subst he;have hd:decide ((l.length:Int)<((il l).length:Int))=false:=od
   have hF:yan x l=-1:=by
    have:l.findIdx? (λy=>decide (x=y))=none:=by rw [kcb];intro y hy;obtain⟨j,hj⟩:=kba hy;have:=hP j (kab.1 hj).1;rw [kai,hj] at this;simpa using λh=>this h.symm
    simp [yan,this]
   exact eyn5
end
section
variable{G:zbf}{u:Nat->ByteArray}
theorem yuc(ss:List Slip)(slip:Int):slip∈zae ss ss.length↔zmj ss slip=true:=by
 simp only [zae,kav,kbw,ka3,decide_eq_true_eq,zmj,ka0];constructor
 .rintro⟨j,⟨hj,hk⟩,rfl⟩;exact⟨oc,by rw [kb9];exact hk⟩
 .rintro⟨h,hk⟩;exact⟨slip.toNat,⟨oc,hk⟩,oc⟩
theorem yuu(x:Int)(l:List Int):yan x l<0↔x∉l:=by
 unfold yan;cases h:l.findIdx? (λy=>decide (x=y)) with
 | none =>rw [kcb] at h;refine⟨λ_ hm=>?_,λ_=>od⟩;have:=h x hm;simp at this
 | some i =>
   rw [kbk] at h;obtain⟨hi,h1,_⟩:=h;refine⟨λh=>by simp at h;omega,λhm=>absurd ?_ hm⟩;have:x=l[i]:=oa h1
   rw [this];exact kbf hi
attribute [local irreducible] AOp AW ADr AFn ze1 AFt AOpJ
set_option maxRecDepth 20000
set_option maxHeartbeats 8000000
theorem cyo0{P G:Prop}(n:P)(h:Wr P->G:=by(intro n;first|((with_reducible apply kC);first|exact gB ⟨_,zsd _ _ _ hn,.mk rfl n.p⟩|exact gB ⟨_,yt9 _ _ hfl,.mk rfl n.p⟩|exact gK n.p|exact gS n.p)|exact⟨_,zsd _ _ _ hn,n.p⟩|exact⟨_,yt9 _ _ hfl,n.p⟩|exact sk n.p|exact ap n.p)):G:=h ⟨n⟩
theorem eyo0{G:Prop}(h:G:=by((repeat' (first|refine sy ?_|(refine aZ ?_;intros)|refine cyo0 ?_|fail));refine fe ?_;simp [hf])):G:=h
theorem yuj(most:Int)(ss:List Slip)(ms:List SumR)(slip:Int)(hn:ss.length<=20):AFn (cx G) 100 [bk most ss ms,vi slip] (vi (if zmj ss slip then 0 else 6)):=by
 refine aby Tryz.func100 Tryz.ntmps100 λQ hQ=>?_;have hfl:(zae ss ss.length).length<=100000:=by have:=zfi ss ss.length;omega
 cases hf:zmj ss slip with
 | true =>have hd:decide (yan slip (zae ss ss.length)<0)=false:=decide_eq_false λh=>(yuu _ _).1 h ((yuc ss slip).2 hf);exact eyo0
 | false =>have hd:decide (yan slip (zae ss ss.length)<0)=true:=decide_eq_true ((yuu _ _).2 λh=>by rw [(yuc ss slip).1 h] at hf;cases hf);exact eyo0
end
theorem yuv{x:Int}{l:List Int}(h:x∈l):∃i:Nat,yan x l=(i:Int)/\l[i]?=some x:=by
 unfold yan;cases e:l.findIdx? (λy=>decide (x=y)) with
 | none =>rw [kcb] at e;have:=e x h;simp at this
 | some i =>
   rw [kbk] at e;obtain⟨hi,h1,_⟩:=e;refine⟨i,rfl,?_⟩;have:x=l[i]:=oa h1
   rw [kaa hi,<-this]
def yt5(most:Int)(ss:List Slip)(ms:List SumR)(slip:Int)(i:Nat):Bool:=((zaj most ss ms).getD i rd0).2.getD (yan slip (zae ss ss.length)).toNat false
def yt2(most:Int)(ss:List Slip)(ms:List SumR)(slip:Int):Int×Int :=
 if zcl most ss ms (zob ss slip)≠0 then (0,zcl most ss ms (zob ss slip)) else (zy9 (zcg (yt5 most ss ms slip) (zaj most ss ms).length:Int) ((zaj most ss ms).length:Int),0)
theorem yuo(most:Int)(ss:List Slip)(ms:List SumR)(slip:Int):zh4 most ss ms slip=yt2 most ss ms slip:=by
 unfold zh4 yt2;rw [zjp];by_cases hl:zcl most ss ms (zob ss slip)=0
 .obtain⟨hg,ho,hne⟩:=zk7 hl;have hf:zmj ss slip=true:=by
    cases h:zmj ss slip with
    | true=>rfl
    | false=>rw [zob,h] at ho;cases ho
  obtain⟨j,e1,e2⟩:=yuv ((yuc ss slip).2 hf);have hlen:(zaj most ss ms).length=(zah most ss ms).length:=by rw [zg9 hg];simp
  have hc:zcg (zzt most ss ms slip.toNat) (zah most ss ms).length=zcg (yt5 most ss ms slip) (zah most ss ms).length:=zj0 _ λi hi=>by rw [zzt,yt5,zvx hg hi,e1,kb9];simp only [toR,sgR,kai,kaq,e2,kcc];rfl
  simp only [hl,ne_eq,not_true_eq_false,if_false,hlen,hc,zpe,zy9,Prod.mk.injEq,and_true];generalize zcg (yt5 most ss ms slip) (zah most ss ms).length=c;have hp:0<(zah most ss ms).length:=by rw [<-hlen];exact kbn.2 hne
  by_cases h0:c=0
  .rw [if_pos h0,if_neg oc,if_pos oc]
  .by_cases h1:c=(zah most ss ms).length
   .rw [if_neg h0,if_pos h1,if_pos oc]
   .rw [if_neg h0,if_neg h1,if_neg oc,if_neg oc]
 .simp [hl]
theorem yuz(most:Int)(ss:List Slip)(ms:List SumR):zr3 most ss ms=if zak most ss ms≠0 then (0,zak most ss ms) else (((zaj most ss ms).length:Int),0):=by
 unfold zr3;by_cases hc:zak most ss ms=0
 .have hg:=(za2 _ _ _).1 hc;simp [hc,zg9 hg]
 .simp [hc]
end Go.Ab.J
