/- Pieces of a law about sales. Conditions: none. -/
import Derived.Test.YtbnajhgbhbgjdaaGreatDoorHLb
import Derived.Test.YtbnajhgbhbgjdaaGreatDoorHLe
import Derived.Test.YtbnajhgbhbgjdaaGreatDoorHLf
import Derived.Sort.AssemblyPlain
import Derived.Sort.LotD4
import Derived.Sort.LotD5
namespace Go.Ab.J
open Go Go.Proofs Go.Kp
theorem yqa(ss:List Slip){wr wr':List Int}{sg sg':List Bool}:∀n,(∀j,j<n->wr.getD j 0=wr'.getD j 0)->(∀j,j<n->(ss.getD j d7).kind=5->sg.getD j false=sg'.getD j false)->zhq ss wr sg n=zhq ss wr' sg' n
 | 0,_,_=>rfl
 | n+1,h1,h2=>by
   have ih:=yqa ss (wr:=wr) (wr':=wr') (sg:=sg) (sg':=sg') n (λj hj=>h1 j oc) (λj hj=>h2 j oc);have e1:=h1 n oc;have e2:=h2 n oc;unfold zhq;rw [ih,e1];by_cases h5:(ss.getD n d7).kind=5
   .rw [e2 h5]
   .rw [if_neg h5,if_neg h5]
theorem yql(ws:List Int)(j:Nat):(zvy ws).getD j 0=ws.getD j 0:=by
 unfold zvy;simp only [kai];rcases kae j ws.length with h|h
 .rw [kam h]
 .rw [kao h,List.getElem?_replicate,kay h];split<;>rfl
theorem yp8(ss:List Slip){n:Nat}(h5:(ss.getD n d7).kind=5):∀k,(zae ss (n+1+k)).getD (zae ss n).length 0=(n:Int)/\(zae ss n).length<(zae ss (n+1+k)).length
 | 0=>by rw [kb1,zuh,if_pos h5];simp
 | k+1=>by obtain⟨h1,h2⟩:=yp8 ss h5 k;rw [show n+1+(k+1)=(n+1+k)+1 by omega,zuh];refine⟨?_,by simp;omega⟩;rw [<-h1];simp only [kai];rw [kam h2]
theorem yqd(ss:List Slip)(N:Nat){a b:Nat}(ha:a<b)(hb:b<(zae ss N).length):(zae ss N).getD a 0<(zae ss N).getD b 0:=by
 have hp:(zae ss N).Pairwise (· < ·):=by unfold zae;rw [List.pairwise_map];exact(List.Pairwise.filter _ List.pairwise_lt_range).imp λh=>oc
 have:=kea.1 hp a b oc hb ha;simpa [kai,hb,kd1 ha hb] using this
theorem yqx(ss:List Slip)(sg:List Bool)(h6:ss.length<=6){i:Nat}(hi:i<(zae ss ss.length).length):∀n,n<=(zae ss ss.length).length->i<n->(sgU (zae ss ss.length) sg n).getD ((zae ss ss.length).getD i 0).toNat false=sg.getD i false
 | 0,_,h=>absurd h oc
 | n+1,hn,h=>by
   have hb:∀j,j<(zae ss ss.length).length->0<=(zae ss ss.length).getD j 0/\(zae ss ss.length).getD j 0<(ss.length:Int):=λj hj=>by refine z5y ss ss.length _ ?_;simp [hj]
   have hl:=ztl (zae ss ss.length) sg n;have b1:=hb i hi;have b2:=hb n oc;rw [sgU];by_cases e:i=n
   .subst e;simp only [kai] at *;rw [kc5 oc];rfl
   .have hlt:=yqd ss ss.length (a:=i) (b:=n) oc oc;have ih:=yqx ss sg h6 hi n oc oc;rw [<-ih];generalize (zae ss ss.length).getD i 0=x at *;generalize (zae ss ss.length).getD n 0=y at *;simp only [kai];rw [kdg oc]
theorem yqk(ss:List Slip)(hn6:ss.length<=6)(p:zd6):zc0 ss (zvy (toR ss p).1,sgU (zae ss ss.length) (toR ss p).2 (zae ss ss.length).length)=zc0 ss p:=by
 unfold zc0;refine yqa ss _ (λj hj=>?_) (λj hj h5=>?_)
 .rw [yql];simp only [toR,kai,ka5,if_pos hj]
 .obtain⟨a1,a2⟩:=yp8 ss h5 (ss.length-(j+1));rw [show j+1+(ss.length-(j+1))=ss.length by omega] at a1 a2;have h1:=yqx ss (toR ss p).2 hn6 a2 _ (kac _) a2;rw [a1,kb9] at h1;have h2:=yda ss p.2 h5 (ss.length-(j+1));rw [show j+1+(ss.length-(j+1))=ss.length by omega] at h2;exact h1.trans h2
theorem yqh{most:Int}{ss:List Slip}{ms:List SumR}(hg:Good most ss ms){p:zd6}(hp:p∈zah most ss ms) :
  (zcp most ss ms (toR ss p).1 (toR ss p).2).2=0/\zxt most ss ms (toR ss p).1 (toR ss p).2=(zc0 ss p).take ss.length/\zxs most ss ms (toR ss p).1 (toR ss p).2=zan ss ms (zc0 ss p):=by
 obtain⟨⟨l1,l2⟩,hab⟩:=ziu hg hp
 have hn6:=hg.nss
 have hall:=(kbw.1 hp).1
 have hf:=z6x hg p hall
 have hc:=(za2 most ss ms).2 hg
 have e1:(toR ss p).1.length=ss.length:=by simp [toR];omega
 have e3:(toR ss p).2.length=(zae ss ss.length).length:=by simp [toR,sgR]
 have e2:(toR ss p).1.any z0e=false:=by
  rw [List.any_eq_false];intro x hx;obtain⟨j,hj⟩:=kba hx;have hjl:j<ss.length:=by have:=(kab.1 hj).1;omega
  obtain⟨⟨h1,h2⟩,_⟩:=hf j hjl;have hk:=(zld hg hjl).amt;have hv:p.1.getD j 0=x:=by simp only [toR,ka5,if_pos hjl] at hj;simp [hj]
  simp [z0e];omega
 have hF:zcp most ss ms (toR ss p).1 (toR ss p).2=((zvy (toR ss p).1,sgU (zae ss ss.length) (toR ss p).2 (zae ss ss.length).length),0):=by unfold zcp;rw [if_neg (by simp [hc]),if_neg (by simp [e1]),if_neg (by simp [e2]),if_neg (by simp [e3])]
 have hN:=yqk ss hn6 p
 refine⟨by rw [hF],?_,?_⟩
 .rw [zxt,hF,if_neg od];simp only;rw [hN]
 .rw [zxs,hF,if_neg od];simp only;rw [hN]
end Go.Ab.J
namespace Go.Ab
open Go Go.Proofs Go.Kp
theorem yqt:(Tryz.prog.info? 4).map (λi=>(i.zero,i.size,i.bytes))=some (some (.bool false),1,1):=by kernel_rfl
theorem yp6:Tryz.prog.underlying 4=some .bool:=by kernel_rfl
theorem yqs:Tryz.prog.cellsOf 4=1:=by kernel_rfl
theorem yqq:Tryz.prog.underlying 101=some (.array 6 4):=by kernel_rfl
theorem yp2(xs:Array Value)(off:Nat)(v:Value)(h:xs[off]?=some v)(w:World):(part 4 xs off).run Tryz.prog w=.ok v w:=by simp [part,isAgg,run_underlying yp6,h]
theorem yp1(d:Nat)(xs ys:Array Value)(i:Nat)(is:List Nat)(x y:Bool)(hx:xs[i]?=some (.bool x))(hy:ys[i]?=some (.bool y))(w:World) :
  (Op.eqItems (d+1) 4 1 xs ys (i::is)).run Tryz.prog w=if x=y then (Op.eqItems (d+1) 4 1 xs ys is).run Tryz.prog w else .ok false w:=by
 simp only [Op.eqItems,Sem.run_bind,kd7,yp2 xs i _ hx,yp2 ys i _ hy,Result.andThen_ok,run_equalIn_bool' w d _ _ _ yp6]
 by_cases h:x=y
 .simp [h]
 .simp [h]
abbrev Sg6:=Bool×Bool×Bool×Bool×Bool×Bool
def b6(l:List Bool):Sg6:=(l.getD 0 false,l.getD 1 false,l.getD 2 false,l.getD 3 false,l.getD 4 false,l.getD 5 false)
def ekB(a:Sg6):Value:=.agg #[.bool a.1,.bool a.2.1,.bool a.2.2.1,.bool a.2.2.2.1,.bool a.2.2.2.2.1,.bool a.2.2.2.2.2]
theorem yqv(d:Nat)(a b:Sg6)(w:World):(Op.equalIn (d+2) 101 (ekB a) (ekB b)).run Tryz.prog w=.ok (decide (a=b)) w:=by
 obtain⟨i0,hi,hz0,hz1,hz2⟩:=info_parts yqt;obtain⟨a0,a1,a2,a3,a4,a5⟩:=a;obtain⟨b0,b1,b2,b3,b4,b5⟩:=b;rw [ekB,ekB,run_equalIn_array w (d+1) _ _ yqq hi,yqs];simp only [List.range,List.range.loop];rw [yp1 d _ _ 0 _ a0 b0 rfl rfl,yp1 d _ _ 1 _ a1 b1 rfl rfl,yp1 d _ _ 2 _ a2 b2 rfl rfl,yp1 d _ _ 3 _ a3 b3 rfl rfl,yp1 d _ _ 4 _ a4 b4 rfl rfl,yp1 d _ _ 5 _ a5 b5 rfl rfl]
 simp only [Op.eqItems,Sem.run_pure];by_cases h0:a0=b0
 .by_cases h1:a1=b1
  .by_cases h2:a2=b2
   .by_cases h3:a3=b3
    .by_cases h4:a4=b4
     .by_cases h5:a5=b5
      .simp [h0,h1,h2,h3,h4,h5]
      .simp [h0,h1,h2,h3,h4,h5]
     .simp [h0,h1,h2,h3,h4]
    .simp [h0,h1,h2,h3]
   .simp [h0,h1,h2]
  .simp [h0,h1]
 .simp [h0]
end Go.Ab
namespace Go.Ab.J
open Go Go.Proofs Go.Kp
variable{G:zbf}{u:Nat->ByteArray}
theorem yq1:Tryz.prog.eqGuardType Tryz.prog.depth 98=false:=by kernel_rfl
theorem yqu:Tryz.prog.eqGuardType Tryz.prog.depth 101=false:=by kernel_rfl
theorem yq7{α:Type}:∀{l:List α},l.length=6->∃a b c d e f,l=[a,b,c,d,e,f]
 | [a,b,c,d,e,f],_=>⟨a,b,c,d,e,f,rfl⟩
theorem yqe{E:Env}{w:World}{l:List Int}{v:Value}(h:Rep E w (.agg (amL l)) v):v=ekA (t6 l):=by
 cases h with
 | agg xs vs hl h =>obtain⟨x0,x1,x2,x3,x4,x5,rfl⟩:∃a b c d e f,vs=[a,b,c,d,e,f]:=yq7 hl.symm;have h0:=(h 0 _ x0 rfl rfl).val_eq;have h1:=(h 1 _ x1 rfl rfl).val_eq;have h2:=(h 2 _ x2 rfl rfl).val_eq;have h3:=(h 3 _ x3 rfl rfl).val_eq;have h4:=(h 4 _ x4 rfl rfl).val_eq;have h5:=(h 5 _ x5 rfl rfl).val_eq;rw [h0,h1,h2,h3,h4,h5];rfl
theorem yp5{E:Env}{w:World}{l:List Bool}{v:Value}(h:Rep E w (.agg (sgL l)) v):v=ekB (b6 l):=by
 cases h with
 | agg xs vs hl h =>obtain⟨x0,x1,x2,x3,x4,x5,rfl⟩:∃a b c d e f,vs=[a,b,c,d,e,f]:=yq7 hl.symm;have h0:=(h 0 _ x0 rfl rfl).val_eq;have h1:=(h 1 _ x1 rfl rfl).val_eq;have h2:=(h 2 _ x2 rfl rfl).val_eq;have h3:=(h 3 _ x3 rfl rfl).val_eq;have h4:=(h 4 _ x4 rfl rfl).val_eq;have h5:=(h 5 _ x5 rfl rfl).val_eq;rw [h0,h1,h2,h3,h4,h5];rfl
theorem yqi(a:Am6):za3 (ekA a):=.agg _ λv hv=>by simp at hv;rcases hv with rfl|rfl|rfl|rfl|rfl|rfl<;>constructor
theorem yqb(a:Sg6):za3 (ekB a):=.agg _ λv hv=>by simp at hv;rcases hv with rfl|rfl|rfl|rfl|rfl|rfl<;>constructor
theorem yq3(a b:Am6)(w:World):(Op.equal 98 (ekA a) (ekA b)).run Tryz.prog w=.ok (decide (a=b)) w:=z17 9998 a b w
theorem yqw(a b:Sg6)(w:World):(Op.equal 101 (ekB a) (ekB b)).run Tryz.prog w=.ok (decide (a=b)) w:=yqv 9998 a b w
section
variable{s:AS}{N d:Nat}{x y:Operand}{t' ty:TypeId}{pos:String}{af:Array Edge}{g:Option (Nat×Bool)}{R:List Nat}{dd:Option Nat}
theorem a_arr{l l':List Int}(hd:d<N)(hx:ev s x=some (.agg (amL l)))(hy:ev s y=some (.agg (amL l'))) :
  AOp (cx G) N ⟨some d,.binOp .eql 98 x y t',ty,pos,af,g⟩ (rds x++rds y) s [(2*d,.av (vb (decide (t6 l=t6 l'))))] :=
 zau hd λw0 E s' a w hR hr=>by have e1:=yqe (hr.ev (zat hR (λ_ h=>by simp [h]) hx));have e2:=yqe (hr.ev (zat hR (λ_ h=>by simp [h]) hy));refine⟨.bool _,?_,.val _,by simp [AV.ids]⟩;have hP:(cx G).P=Tryz.prog:=rfl;have he:=λw=>yq3 (t6 l) (t6 l') w;simp only [ekA] at he e1 e2;simp [execOp,e1,e2,eqGuard,binOp,he,hP]
theorem yrt{l l':List Bool}(hd:d<N)(hx:ev s x=some (.agg (sgL l)))(hy:ev s y=some (.agg (sgL l'))) :
  AOp (cx G) N ⟨some d,.binOp .eql 101 x y t',ty,pos,af,g⟩ (rds x++rds y) s [(2*d,.av (vb (decide (b6 l=b6 l'))))] :=
 zau hd λw0 E s' a w hR hr=>by have e1:=yp5 (hr.ev (zat hR (λ_ h=>by simp [h]) hx));have e2:=yp5 (hr.ev (zat hR (λ_ h=>by simp [h]) hy));refine⟨.bool _,?_,.val _,by simp [AV.ids]⟩;have hP:(cx G).P=Tryz.prog:=rfl;have he:=λw=>yqw (b6 l) (b6 l') w;simp only [ekB] at he e1 e2;simp [execOp,e1,e2,eqGuard,binOp,he,hP]
theorem f_arr{l l':List Int}(hx:ev s x=some (.agg (amL l)))(hy:ev s y=some (.agg (amL l')))(hs:zly (rds x++rds y) R=true) :
  AFt (cx G) ⟨dd,.binOp .eql 98 x y t',ty,pos,af,g⟩ R s:=λN w0 E s' a w hR hr=>by
 have hR:=agr hR hs
 have e1:=yqe (hr.ev ((zas λr h=>hR r om).trans hx))
 have e2:=yqe (hr.ev ((zas λr h=>hR r om).trans hy))
 have h1:za3 (a.eval x):=by rw [e1];exact yqi _
 have h2:za3 (a.eval y):=by rw [e2];exact yqi _
 refine zjc ?_
 rw [ft_bind];exact zoo _ _ _ _ _ _ h1 h2 (zwe _ _ _ _ h1 h2 λ_=>trivial)
theorem yrq{l l':List Bool}(hx:ev s x=some (.agg (sgL l)))(hy:ev s y=some (.agg (sgL l')))(hs:zly (rds x++rds y) R=true) :
  AFt (cx G) ⟨dd,.binOp .eql 101 x y t',ty,pos,af,g⟩ R s:=λN w0 E s' a w hR hr=>by
 have hR:=agr hR hs
 have e1:=yp5 (hr.ev ((zas λr h=>hR r om).trans hx))
 have e2:=yp5 (hr.ev ((zas λr h=>hR r om).trans hy))
 have h1:za3 (a.eval x):=by rw [e1];exact yqb _
 have h2:za3 (a.eval y):=by rw [e2];exact yqb _
 refine zjc ?_
 rw [ft_bind];exact zoo _ _ _ _ _ _ h1 h2 (zwe _ _ _ _ h1 h2 λ_=>trivial)
end
def knW(ss:List Slip)(wr:List Int):Nat->List Int
 | 0=>wr
 | n+1=>(knW ss wr n).set n (min (max (wr.getD n 0) (ss.getD n d7).lo) (ss.getD n d7).hi)
def knS(ss:List Slip)(sg:List Bool):Nat->List Bool
 | 0=>sg
 | n+1=>(knS ss sg n).set n (if (ss.getD n d7).signed=1 then true else if (ss.getD n d7).signed=0 then sg.getD n false else false)
theorem yqz(ss:List Slip)(wr:List Int):∀n,(knW ss wr n).length=wr.length
 | 0=>rfl
 | n+1=>by rw [knW,kcz,yqz ss wr n]
theorem yq0(ss:List Slip)(sg:List Bool):∀n,(knS ss sg n).length=sg.length
 | 0=>rfl
 | n+1=>by rw [knS,kcz,yq0 ss sg n]
def yrp(most:Int)(ss:List Slip)(ms:List SumR)(ws:List Int)(sg:List Bool):Bool :=
 if (zcp most ss ms ws sg).2≠0 then false else
  decide (t6 (knW ss (zcp most ss ms ws sg).1.1 ss.length)=t6 (zcp most ss ms ws sg).1.1)&&(decide (b6 (knS ss (zcp most ss ms ws sg).1.2 ss.length)=b6 (zcp most ss ms ws sg).1.2)&&zeh most ss ms (zc0 ss (zcp most ss ms ws sg).1))
theorem yrf(ss:List Slip)(p:zd6)(h1:p.1.length=6)(h2:p.2.length=6){i:Nat}(hi:i<6):psL (knW ss p.1 (i+1),knS ss p.2 (i+1))=((psL (knW ss p.1 i,knS ss p.2 i)).set (0+i*1) (vi (min (max (p.1.getD i 0) (ss.getD i d7).lo) (ss.getD i d7).hi))).set (6+i*1) (vb (if (ss.getD i d7).signed=1 then true else if (ss.getD i d7).signed=0 then p.2.getD i false else false)):=by
 have l1:=yqz ss p.1 i;have l2:=yq0 ss p.2 i;rw [knW,knS];generalize knW ss p.1 i=A at *;generalize knS ss p.2 i=B at *;obtain⟨x0,x1,x2,x3,x4,x5,rfl⟩:=yq7 (l1.trans h1);obtain⟨y0,y1,y2,y3,y4,y5,rfl⟩:=yq7 (l2.trans h2);rcases lt6 hi with rfl|rfl|rfl|rfl|rfl|rfl<;>rfl
attribute [local irreducible] AOp AW ADr AFn ze1 AFt AOpJ
set_option maxRecDepth 20000
set_option maxHeartbeats 8000000
def LpI(u:Nat->ByteArray)(Q:Exit->AS->Prop)(s:AS):Prop:=∀c,(Tryz.f29.body.bind yj2)=some c->AW (cx (zch u)) none Tryz.f29.ntmps c Q s
theorem yqy{Q:Exit->AS->Prop}{s:AS}{c:Code}{N:Nat}(e:(Tryz.f29.body.bind yj2)=some c)(hN:Tryz.f29.ntmps=N)(h:AW (cx (zch u)) none N c Q s):LpI u Q s:=λc' e'=>by subst hN;exact kaw (e.symm.trans e')▸h
abbrev stI(most:Int)(ss:List Slip)(ms:List SumR)(p:zd6)(W:List Int)(S:List Bool)(i:Nat):AS:=[(2*3,.av (.ptr 3 0)),(2*3+1,.cells 25 [vi most,.sl 7 (ss.map Slip.row),.sl 5 (ms.map SumR.row)]),(2*26,.av (.sl 7 (ss.map Slip.row))),(2*27,.av (vi ((ss.map Slip.row).length:Int))),(2*8,.av (.ptr 8 0)),(2*8+1,.cells 103 (psL p)),(2*10,.av (.ptr 10 0)),(2*10+1,.cells 103 (psL (W,S))),(2*28,.av (vi i))]
theorem eha0{G:Prop}(h:G:=by((repeat' (first|refine sy ?_|(refine aZ ?_;intros)|refine w0 ?_|fail));exact si)):G:=h
theorem yrl{most:Int}{ss:List Slip}{ms:List SumR}{p:zd6}{W W2:List Int}{S S2:List Bool}{i:Nat}{s:Slip}(hlt:i<ss.length)(hi6:i<6)(hs:ss[i]?=some s){P:AS->Prop}{Q:Exit->AS->Prop}(h1:s.signed=1)(hsucc:psL (W2,S2)=((psL (W,S)).set (0+i*1) (vi (min (max (p.1.getD i 0) s.lo) s.hi))).set (6+i*1) (vb true))(hP:∀s',Sub (zch u) Tryz.f29.ntmps s' (stI most ss ms p W2 S2 (i+1))->P s'):LpI u (zii P Q) (stI most ss ms p W S i):=by
 have hrow:(ss.map Slip.row)[i]?=some s.row:=by simp [hs]
 have hil:i<(ss.map Slip.row).length:=by simp;omega
 have hd:decide ((i:Int)<((ss.map Slip.row).length:Int))=true:=by simp;omega
 have hx1:=z9y p hi6;have hx2:=zvw p hi6;have hy1:0+i*1<(psL (W,S)).length:=by show 0+i*1<12;omega
 have hy2:6+i*1<((psL (W,S)).set (0+i*1) (vi (min (max (p.1.getD i 0) s.lo) s.hi))).length:=by rw [kcz];show 6+i*1<12;omega
 have hi1:vi ((i+1:Nat):Int)=vi ((i:Int)+1):=od
 have hd1:decide (s.signed=1)=true:=decide_eq_true h1;refine yqy rfl rfl ?_;unfold stI at hP |-;exact eha0
theorem yrk{most:Int}{ss:List Slip}{ms:List SumR}{p:zd6}{W W2:List Int}{S S2:List Bool}{i:Nat}{s:Slip}(hlt:i<ss.length)(hi6:i<6)(hs:ss[i]?=some s){P:AS->Prop}{Q:Exit->AS->Prop}(h1:¬s.signed=1)(h0:s.signed=0)(hsucc:psL (W2,S2)=((psL (W,S)).set (0+i*1) (vi (min (max (p.1.getD i 0) s.lo) s.hi))).set (6+i*1) (vb (p.2.getD i false)))(hP:∀s',Sub (zch u) Tryz.f29.ntmps s' (stI most ss ms p W2 S2 (i+1))->P s'):LpI u (zii P Q) (stI most ss ms p W S i):=by
 have hrow:(ss.map Slip.row)[i]?=some s.row:=by simp [hs]
 have hil:i<(ss.map Slip.row).length:=by simp;omega
 have hd:decide ((i:Int)<((ss.map Slip.row).length:Int))=true:=by simp;omega
 have hx1:=z9y p hi6;have hx2:=zvw p hi6;have hy1:0+i*1<(psL (W,S)).length:=by show 0+i*1<12;omega
 have hy2:6+i*1<((psL (W,S)).set (0+i*1) (vi (min (max (p.1.getD i 0) s.lo) s.hi))).length:=by rw [kcz];show 6+i*1<12;omega
 have hi1:vi ((i+1:Nat):Int)=vi ((i:Int)+1):=od
 have hd1:decide (s.signed=1)=false:=decide_eq_false h1;have hd0:decide (s.signed=0)=true:=decide_eq_true h0;refine yqy rfl rfl ?_;unfold stI at hP |-;exact eha0
theorem yrj{most:Int}{ss:List Slip}{ms:List SumR}{p:zd6}{W W2:List Int}{S S2:List Bool}{i:Nat}{s:Slip}(hlt:i<ss.length)(hi6:i<6)(hs:ss[i]?=some s){P:AS->Prop}{Q:Exit->AS->Prop}(h1:¬s.signed=1)(h0:¬s.signed=0)(hsucc:psL (W2,S2)=((psL (W,S)).set (0+i*1) (vi (min (max (p.1.getD i 0) s.lo) s.hi))).set (6+i*1) (vb false))(hP:∀s',Sub (zch u) Tryz.f29.ntmps s' (stI most ss ms p W2 S2 (i+1))->P s'):LpI u (zii P Q) (stI most ss ms p W S i):=by
 have hrow:(ss.map Slip.row)[i]?=some s.row:=by simp [hs]
 have hil:i<(ss.map Slip.row).length:=by simp;omega
 have hd:decide ((i:Int)<((ss.map Slip.row).length:Int))=true:=by simp;omega
 have hx1:=z9y p hi6;have hx2:=zvw p hi6;have hy1:0+i*1<(psL (W,S)).length:=by show 0+i*1<12;omega
 have hy2:6+i*1<((psL (W,S)).set (0+i*1) (vi (min (max (p.1.getD i 0) s.lo) s.hi))).length:=by rw [kcz];show 6+i*1<12;omega
 have hi1:vi ((i+1:Nat):Int)=vi ((i:Int)+1):=od
 have hd1:decide (s.signed=1)=false:=decide_eq_false h1;have hd0:decide (s.signed=0)=false:=decide_eq_false h0;refine yqy rfl rfl ?_;unfold stI at hP |-;exact eha0
theorem cha0{P G:Prop}(n:P)(h:Wr P->G:=by(intro n;first|((with_reducible apply kC);first|exact gB ⟨_,hpl,.mk rfl n.p⟩|exact gB ⟨_,hno,.mk rfl n.p⟩|exact gB ⟨_,hag,.mk rfl n.p⟩|exact gK n.p|exact gS n.p)|exact⟨_,hpl,n.p⟩|exact⟨_,hno,n.p⟩|exact⟨_,hag,n.p⟩|exact sk n.p|exact ap n.p)):G:=h ⟨n⟩
theorem eha1{G:Prop}(h:G:=by((repeat' (first|(refine g1 ?_ oo ⟨a_arr oe rfl rfl,f_arr rfl rfl rfl⟩)|(refine g1 ?_ oo ⟨yrt oe rfl rfl,yrq rfl rfl rfl⟩) |refine sy ?_|(refine aZ ?_;intros)|refine cha0 ?_|(refine s2 ?_ ?_<;>intro h7<;>try omega)));refine fe ?_;rfl)):G:=h
theorem yq9(most:Int)(ss:List Slip)(ms:List SumR)(ws:List Int)(sg:List Bool)(hn:ss.length<=20)(hm:ms.length<=20)(hwl:ws.length<=100000) :
  AFn (cx (zch u)) 29 [bk most ss ms,.sl 1 (il ws),.sl 1 (bl sg)] (.tup [vb (yrp most ss ms ws sg),vi (zcp most ss ms ws sg).2]):=by
 refine aby Tryz.func29 Tryz.ntmps29 λQ hQ=>?_
 have hpl:=z7s (u:=u) most ss ms ws sg hn hm hwl
 by_cases hz:(zcp most ss ms ws sg).2=0
 case neg =>
  have hdz:(!decide ((zcp most ss ms ws sg).2=0))=true:=oa hz
  have hI:yrp most ss ms ws sg=false:=if_pos hz;rw [hI] at hQ;generalize zcp most ss ms ws sg=PF at *;exact eha1
 have hdz:(!decide ((zcp most ss ms ws sg).2=0))=false:=oa hz
 obtain⟨hg,hab,hwn,_,_,hpe⟩:=z4z hz
 have hno:=zx3 (G:=zch u) most ss ms (zcp most ss ms ws sg).1 hg.nss hg.for5
 have hag:=zsw (u:=u) most ss ms (zc0 ss (zcp most ss ms ws sg).1) hg.bok hab
 have hI:yrp most ss ms ws sg=(decide (t6 (knW ss (zcp most ss ms ws sg).1.1 ss.length)=t6 (zcp most ss ms ws sg).1.1)&&(decide (b6 (knS ss (zcp most ss ms ws sg).1.2 ss.length)=b6 (zcp most ss ms ws sg).1.2)&&zeh most ss ms (zc0 ss (zcp most ss ms ws sg).1))):=if_neg (oa hz)
 have p1:(zcp most ss ms ws sg).1.1.length=6:=by rw [hpe];simp only [zvy,kbx,List.length_replicate];have:=hg.nss;omega
 have p2:(zcp most ss ms ws sg).1.2.length=6:=by rw [hpe];exact ztl _ _ _
 have n6:=hg.nss
 rw [hI] at hQ
 clear hI hpe
 change AFn _ _ _ (.agg (amL (zc0 ss (zcp most ss ms ws sg).1))) at hno
 generalize zeh most ss ms (zc0 ss (zcp most ss ms ws sg).1)=AG at *
 generalize zc0 ss (zcp most ss ms ws sg).1=NW at *
 generalize zcp most ss ms ws sg=PF at *
 obtain⟨p,z⟩:=PF
 obtain rfl:z=0:=hz
 dsimp only at p1 p2 hdz hno hpl hQ
 (repeat' (first|refine sy ?_|(refine aZ ?_;intros)|refine cha0 ?_|fail))
 refine zam ss.length (λi=>stI most ss ms p (knW ss p.1 i) (knS ss p.2 i) i) ?_ ?_
 .exact si
 .intro i hi;rcases kae i ss.length with hlt|hge
  .obtain⟨s,hs⟩:∃s,ss[i]?=some s:=⟨_,kaa oc⟩;have hg:ss.getD i d7=s:=by simp [hs]
   have hi6:i<6:=oc
   have hsucc:=yrf ss p p1 p2 hi6;rw [hg] at hsucc;by_cases h1:s.signed=1
   .rw [if_pos h1] at hsucc;exact yrl hlt hi6 hs h1 hsucc (λs' h=>⟨hlt,h⟩) _ rfl
   .rw [if_neg h1] at hsucc;by_cases h0:s.signed=0
    .rw [if_pos h0] at hsucc;exact yrk hlt hi6 hs h1 h0 hsucc (λs' h=>⟨hlt,h⟩) _ rfl
    .rw [if_neg h0] at hsucc;exact yrj hlt hi6 hs h1 h0 hsucc (λs' h=>⟨hlt,h⟩) _ rfl
  .have he:i=ss.length:=oc
   subst he;have hd:decide ((ss.length:Int)<((ss.map Slip.row).length:Int))=false:=od
   cases e1:decide (t6 (knW ss p.1 ss.length)=t6 p.1)
   .rw [e1,Bool.false_and] at hQ;exact eha1
   .cases e2:decide (b6 (knS ss p.2 ss.length)=b6 p.2)
    .rw [e1,e2,Bool.true_and,Bool.false_and] at hQ;exact eha1
    .rw [e1,e2,Bool.true_and,Bool.true_and] at hQ;exact eha1
end Go.Ab.J
namespace Go.Ab.J
open Go Go.Proofs Go.Kp
theorem yqr(l:List Int):(yls l).length<=l.length:=yqf l l.length
theorem yp9(ss:List Slip)(ms:List SumR)(am:List Int):(zan ss ms am).length<=ms.length:=by unfold zan zao;rw [ka6];exact kak (kbc _ _) od
def yqj(ss:List Slip)(p:zd6):List Int:=(zc0 ss p).take ss.length
theorem yqm{ss:List Slip}(h6:ss.length<=6)(p:zd6):(yqj ss p).length=ss.length:=by unfold yqj zc0;rw [kcj,zfy];omega
theorem yqc(ss:List Slip)(p:zd6){j:Nat}(hj:j<ss.length):(yqj ss p).getD j 0=(zc0 ss p).getD j 0:=by unfold yqj;simp only [kai,ka5,if_pos hj]
theorem yre{ss:List Slip}{p:zd6}(h:zhn (zc0 ss p)):zhn (yqj ss p):=λj=>by
 rcases kae j ss.length with hj|hj
 .rw [yqc ss p hj];exact h j
 .have:(yqj ss p).getD j 0=0:=by
    unfold yqj;simp only [kai,ka5,if_neg (kd6.2 hj)];rfl
  rw [this];decide
def yri(ss:List Slip)(K A:Int)(p:zd6):Int:=zbo ss (yqj ss p) K.toNat A ss.length
theorem yrd(ss:List Slip)(K A:Int)(p:zd6):yri ss K A p=zbo ss (zc0 ss p) K.toNat A ss.length:=by unfold yri zbo;congr 1;refine kcn λi hi=>?_;rw [yqc ss p (ka3.1 hi)]
theorem yp7(f:Nat->Int):∀n,0<n->(∀i,i<n->(zh2 f n).1<=f i/\f i<=(zh2 f n).2)/\(∃i,i<n/\f i=(zh2 f n).1)/\∃i,i<n/\f i=(zh2 f n).2
 | 0,h=>absurd h oc
 | 1,_=>by
   have e1:(zh2 f 1).1=f 0:=by simp [zh2]
   have e2:(zh2 f 1).2=f 0:=by simp [zh2]
   rw [e1,e2];exact⟨λi hi=>by obtain rfl:i=0:=(oc);exact⟨kek _,kek _⟩,⟨0,oc,rfl⟩,⟨0,oc,rfl⟩⟩
 | n+2,_=>by
   obtain⟨h1,⟨i,hi,ei⟩,⟨j,hj,ej⟩⟩:=yp7 f (n+1) oc;have e1:(zh2 f (n+2)).1=min (zh2 f (n+1)).1 (f (n+1)):=rfl;have e2:(zh2 f (n+2)).2=max (zh2 f (n+1)).2 (f (n+1)):=rfl;rw [e1,e2];refine⟨λk hk=>?_,?_,?_⟩
   .rcases kae k (n+1) with hk2|hk2
    .have:=h1 k hk2;omega
    .obtain rfl:k=n+1:=oc
     omega
   .rcases Int.le_total (zh2 f (n+1)).1 (f (n+1)) with hl|hl
    .exact⟨i,oc,oc⟩
    .exact⟨n+1,oc,oc⟩
   .rcases Int.le_total (zh2 f (n+1)).2 (f (n+1)) with hl|hl
    .exact⟨n+1,oc,oc⟩
    .exact⟨j,oc,oc⟩
theorem yq4(most:Int)(ss:List Slip)(ms:List SumR){i:Nat}(hi:i<ss.length):ybr most ss ms i=(zah most ss ms).map λp=>(yqj ss p).getD i 0:=by unfold ybr;exact kcn λp _=>(yqc ss p hi).symm
theorem yf7(ms:List SumR)(xs:List Int):ybf ms xs=true↔∀x∈xs,(ms.getD x.toNat d5).firm=false:=by simp only [ybf,kb7,List.any_eq_false];exact⟨λh x hx=>by simpa using h x hx,λh x hx=>by simpa using h x hx⟩
theorem yhc(ss:List Slip)(ps:List Nat){i n:Nat}(hi:i<n):(ygy ss ps n)[i]?=some (yhh (ss.getD i d7) (ygr ps i)):=by
 induction n with
 | zero=>omega
 | succ n ih =>
   simp only [ygy];rcases kae i n with h|h
   .rw [kam (by rw [ygw];exact h)];exact ih h
   .have:i=n:=oc
    subst this;rw [kao (by rw [ygw];exact kac _),ygw];simp
theorem yht{most:Int}{ss:List Slip}{ms:List SumR}(hg:Good most ss ms)(ps:List Nat):zhn (ygy ss ps ss.length):=λi=>by
 rcases kae i ss.length with h|h
 .rw [kai,yhc ss ps h];have ha:=(zld hg h).amt;obtain⟨a,b⟩:=yhp (ygr ps i) ((ss.getD i d7).hi-(ss.getD i d7).lo+1) oc;simp only [kcp,yhh];omega
 .rw [kai,kay (by rw [ygw];exact h)];simp
theorem yj7{lo hi n:Int}(h:lo<=n/\n<=hi):n∈zbr lo hi:=by simp only [zbr,kav,ka3];exact⟨(n-lo).toNat,oc,oc⟩
theorem yju{ss:List Slip}(ps:List Nat)(hok:∀i,i<ss.length->(ss.getD i d7).lo<=(ss.getD i d7).hi) :
  ∀m i,i+m=ss.length->(ygy ss ps ss.length,ygv ss ps ss.length)∈zhu ss m i (ygy ss ps i) (ygv ss ps i)
 | 0,i,h=>by
   have:i=ss.length:=oc
   subst this;simp [zhu]
 | m+1,i,h=>by
   have ih:=yju ps hok m (i+1) oc;have hk:=hok i oc;obtain⟨a,b⟩:=yhp (ygr ps i) ((ss.getD i d7).hi-(ss.getD i d7).lo+1) oc;simp only [zhu];rw [kcq];refine⟨yhh (ss.getD i d7) (ygr ps i),yj7 (by unfold yhh;omega),?_⟩;simp only [ygy,ygv] at ih;by_cases h5:(ss.getD i d7).kind=5
   .rw [if_pos h5] at ih;rw [if_neg (oa h5),kax];cases hb:yg4 (ss.getD i d7) (ygr ps i) with
    | false =>
      rw [hb] at ih;left;rw [if_pos]
      .exact ih
      .intro h1;rw [yg4,if_pos h1] at hb;cases hb
    | true =>
      rw [hb] at ih;right;rw [if_pos]
      .exact ih
      .intro h1;rw [yg4,if_neg oc,if_neg oc] at hb;cases hb
   .rw [if_neg h5] at ih;rw [if_pos h5];exact ih
def yji(most q:Int)(ss:List Slip)(now:List Int)(ms:List SumR)(j:Nat):SumR:=if yjb most q j (yja most q ss now ms j).2 (ms.getD j d5) then ms.getD j d5 else yjn (ms.getD j d5) (yjg ss now (ms.getD j d5))
theorem yjf(most q:Int)(ss:List Slip)(now:List Int)(ms:List SumR):∀n,(yja most q ss now ms n).1=(List.range n).map (yji most q ss now ms)
 | 0=>rfl
 | n+1=>by rw [kdp,kbt,<-yjf most q ss now ms n];simp only [yja,yji,kbq,kej];split<;>rfl
theorem yjp{most q:Int}{ss:List Slip}{now:List Int}{ms:List SumR}{n j:Nat}(h:j<n):(yja most q ss now ms n).1.getD j d5=yji most q ss now ms j:=by rw [yjf];simp [List.getElem?_range h]
theorem yje{most q:Int}{ss:List Slip}{now:List Int}{ms:List SumR}(hl:now.length=ss.length)(j:Nat):zd3 ss now (yji most q ss now ms j)=(yjb most q j (yja most q ss now ms j).2 (ms.getD j d5)&&!decide ((ms.getD j d5).lo<=yjg ss now (ms.getD j d5)/\yjg ss now (ms.getD j d5)<=(ms.getD j d5).hi)):=by
 unfold yji;cases yjb most q j (yja most q ss now ms j).2 (ms.getD j d5) with
 | true=>simp [zd3,yjg,hl]
 | false =>simp only [zd3,yjn,yjg,hl,Bool.false_and,kbd,if_false,Bool.not_eq_false',decide_eq_true_eq];omega
theorem yjk{most q:Int}{ss:List Slip}{now:List Int}{ms:List SumR}(hl:now.length=ss.length):∀n:Nat,((((List.range n).filter λj=>zd3 ss now (yji most q ss now ms j)).length:Nat):Int)=(yja most q ss now ms n).2
 | 0=>rfl
 | n+1=>by
   have ih:=yjk (most:=most) (q:=q) (ms:=ms) hl n;rw [kdp,kch,kbx];have hf:=yje (most:=most) (q:=q) (ms:=ms) hl n;simp only [yja];cases hm:yjb most q n (yja most q ss now ms n).2 (ms.getD n d5) with
   | false=>rw [hm] at hf;simp [hf];omega
   | true =>
     rw [hm] at hf;by_cases hin:(ms.getD n d5).lo<=yjg ss now (ms.getD n d5)/\yjg ss now (ms.getD n d5)<=(ms.getD n d5).hi
     .rw [decide_eq_true hin] at hf;rw [if_pos rfl,if_pos hin];simp only [Bool.not_true,Bool.and_false] at hf;simp [hf];omega
     .rw [decide_eq_false hin] at hf;rw [if_pos rfl,if_neg hin];simp only [Bool.not_false,Bool.and_true] at hf;simp [hf];omega
theorem yjo{most q:Int}{ss:List Slip}{now:List Int}{ms:List SumR}(h0:0<=most):∀n,(yja most q ss now ms n).2<=most
 | 0=>h0
 | n+1=>by
   have ih:=yjo (q:=q) (ss:=ss) (now:=now) (ms:=ms) h0 n;simp only [yja];split
   .rename_i h;simp only [yjb,ka0,decide_eq_true_eq] at h;split<;>simp only<;>omega
   .exact ih
theorem yjj{most q:Int}{ss:List Slip}{now:List Int}{ms:List SumR}(_hl:now.length=ss.length):zan ss (yja most q ss now ms ms.length).1 now=((List.range ms.length).filter λj=>zd3 ss now (yji most q ss now ms j)).map λj:Nat=>(j:Int):=by
 unfold zan zao;rw [yjc];congr 1;refine List.filter_congr λj hj=>?_;have e:(yja most q ss now ms ms.length).1.getD j ⟨0,0,0,0,false⟩=yji most q ss now ms j:=yjp (ka3.1 hj);rw [e]
theorem yj1{most q:Int}{ss:List Slip}{now:List Int}{ms:List SumR}(hg:Good most ss ms)(hl:now.length=ss.length)(ha:zhn now):Good most ss (yja most q ss now ms ms.length).1 where
 most:=hg.most
 nss:=hg.nss
 slip:=hg.slip
 fix:=hg.fix
 nms:=by rw [yjc];exact hg.nms
 sum:=λm hm=>by
  rw [yjf] at hm;obtain⟨j,hj,rfl⟩:=kav.1 hm;have hj:=ka3.1 hj;have hmem:ms.getD j d5∈ms:=by rw [kai,kaa hj];exact kbf hj
  have h:=hg.sum _ hmem;unfold yji;split
  .exact h
  .have hb:=zpf ss now (ms.getD j d5).kind.toNat (ms.getD j d5).a ha now.length;have h6:=hg.nss;obtain⟨h1,h2,h3,h4,h5⟩:=h;refine⟨h1,h2,?_⟩;simp only [yjn,yjg];omega
theorem yj0{most q:Int}{ss:List Slip}{ms:List SumR}(ps:List Nat)(hg:Good most ss ms)(hb:zf9 ss (zc7 ss (ygy ss ps ss.length,ygv ss ps ss.length))=true) :
  (ygy ss ps ss.length,ygv ss ps ss.length)∈zaj most ss (yja most q ss (zc7 ss (ygy ss ps ss.length,ygv ss ps ss.length)) ms ms.length).1:=by
 have hl:=zb6 ss (ygy ss ps ss.length,ygv ss ps ss.length)
 have hal:(ygy ss ps ss.length,ygv ss ps ss.length)∈allR ss:=by have h:=yju (ss:=ss) ps (λi hi=>(zld hg hi).amt.2.1) ss.length 0 oc;exact h
 have hposs:zxr ss (ygy ss ps ss.length) (ygv ss ps ss.length)=true:=by have h:=hal;rw [zuv hg] at h;obtain⟨p,h1,h2⟩:=kav.1 h;have:=z4y hg p (z6x hg p h1);rwa [h2] at this
 refine kbw.2 ⟨hal,?_⟩
 have hcount:=yjk (most:=most) (q:=q) (ms:=ms) hl ms.length
 have hmost:=yjo (q:=q) (ss:=ss) (now:=zc7 ss (ygy ss ps ss.length,ygv ss ps ss.length)) (ms:=ms) hg.most.1 ms.length
 unfold zdk
 rw [<-zwh]
 simp only [hposs,hb,Bool.true_and,ka0,decide_eq_true_eq]
 refine⟨?_,(yf7 _ _).2 λx hx=>?_⟩
 .rw [yjj hl,ka6,hcount];exact hmost
 .rw [yjj hl] at hx;obtain⟨j,hj,rfl⟩:=kav.1 hx;obtain⟨h1,h2⟩:=kbw.1 hj;rw [kb9,yjp (ka3.1 h1)];rw [yje hl,ka0] at h2;have h3:=h2.1;unfold yji;rw [h3,if_pos rfl];simp only [yjb,ka0,kb7] at h3;exact h3.2
theorem yjw{p:Nat->Bool}{i:Nat}:∀{n},i<n->p i=true->0<zcg p n
 | 0,h,_=>oc
 | n+1,h,hp=>by
   simp only [zcg];split
   .omega
   .rename_i hn;exact yjw (by
     rcases kae i n with h1|h1
     .exact h1
     .have:i=n:=oc
      subst this;rw [hp] at hn;exact absurd rfl hn) hp
theorem yjx{p:Nat->Bool}:∀{n},zcg p n=n->∀i,i<n->p i=true
 | n+1,h,i,hi=>by
   have hle:=zjz p n;simp only [zcg] at h;split at h
   .rename_i hp;rcases kae i n with h1|h1
    .exact yjx oc i h1
    .have:i=n:=oc
     subst this;exact hp
   .omega
section
variable{G:zbf}{u:Nat->ByteArray}
attribute [local irreducible] AOp AW ADr AFn ze1 AFt AOpJ
set_option maxRecDepth 20000
set_option maxHeartbeats 8000000
def yq5(s:Int)(b:Bool):Bool:=(!decide (s=1)||b)&&(!decide (s=2)||!b)
theorem yrc(s:Int)(b:Bool):AFn (cx G) 33 [vi s,vb b] (vb (yq5 s b)):=by
 refine zg1 Tryz.func33 rfl Tryz.ntmps33 rfl rfl rfl (λQ hQ=>?_) rfl;unfold yq5 at hQ;by_cases e1:s=1
 .have d1:decide (s=1)=true:=decide_eq_true e1;have d2:decide (s=2)=false:=decide_eq_false oc;rw [d1,d2] at hQ;cases b
  .exact yo7
  .exact yo7
 .have d1:decide (s=1)=false:=decide_eq_false e1;by_cases e2:s=2
  .have d2:decide (s=2)=true:=decide_eq_true e2;rw [d1,d2] at hQ;cases b
   .exact yo7
   .exact yo7
  .have d2:decide (s=2)=false:=decide_eq_false e2;rw [d1,d2] at hQ;cases b
   .exact yo7
   .exact yo7
end
theorem yp3{α:Type}(l:List α)(n:Nat)(d:α)(h:n<l.length):l.set n (l.getD n d)=l:=by
 apply kc0;intro j;rw [kdc];split
 .rename_i e;subst e;simp [h]
 .rfl
theorem yqn(ss:List Slip)(wr:List Int):∀n,n<=wr.length->(∀j,j<n->(ss.getD j d7).lo<=wr.getD j 0/\wr.getD j 0<=(ss.getD j d7).hi)->knW ss wr n=wr
 | 0,_,_=>rfl
 | n+1,hl,h=>by have hh:=h n oc;rw [knW,yqn ss wr n oc λj hj=>h j oc,show min (max (wr.getD n 0) (ss.getD n d7).lo) (ss.getD n d7).hi=wr.getD n 0 by omega];exact yp3 _ _ _ oc
theorem yqo(ss:List Slip)(sg:List Bool):∀n,n<=sg.length->(∀j,j<n->((ss.getD j d7).signed=1->sg.getD j false=true)/\((ss.getD j d7).signed≠1->(ss.getD j d7).signed≠0->sg.getD j false=false))->knS ss sg n=sg
 | 0,_,_=>rfl
 | n+1,hl,h=>by
   obtain⟨h1,h2⟩:=h n oc;rw [knS,yqo ss sg n oc λj hj=>h j oc];have e:(if (ss.getD n d7).signed=1 then true else if (ss.getD n d7).signed=0 then sg.getD n false else false)=sg.getD n false:=by
    split
    .rename_i e;exact(h1 e).symm
    .rename_i e;split
     .rfl
     .rename_i e2;exact(h2 e e2).symm
   rw [e];exact yp3 _ _ _ oc
theorem yra{most:Int}{ss:List Slip}{ms:List SumR}(hg:Good most ss ms){p:zd6}(hp:p∈zah most ss ms):yrp most ss ms (toR ss p).1 (toR ss p).2=true:=by
 obtain⟨y1,_,_⟩:=yqh hg hp;obtain⟨_,_,_,_,_,hF⟩:=z4z y1;obtain⟨⟨l1,l2⟩,hab⟩:=ziu hg hp;have hn6:=hg.nss;have hall:=(kbw.1 hp).1;have hag:zeh most ss ms (zc0 ss p)=true:=(kbw.1 hp).2;have hf:=z6x hg p hall;rw [yrp,if_neg (by simp [y1]),hF];dsimp only;rw [yqk ss hn6 p,hag];have hW:∀j,j<ss.length->(zvy (toR ss p).1).getD j 0=p.1.getD j 0:=λj hj=>by rw [yql];simp only [toR,kai,ka5,if_pos hj]
 have hlen:(zvy (toR ss p).1).length=6:=by simp [zvy,toR];omega
 have hS:∀j,j<ss.length->(ss.getD j d7).kind=5->(sgU (zae ss ss.length) (toR ss p).2 (zae ss ss.length).length).getD j false=p.2.getD j false:=λj hj h5=>by
  obtain⟨a1,a2⟩:=yp8 ss h5 (ss.length-(j+1));rw [show j+1+(ss.length-(j+1))=ss.length by omega] at a1 a2;have h1:=yqx ss (toR ss p).2 hn6 a2 _ (kac _) a2;rw [a1,kb9] at h1;have h2:=yda ss p.2 h5 (ss.length-(j+1));rw [show j+1+(ss.length-(j+1))=ss.length by omega] at h2;exact h1.trans h2
 rw [yqn ss _ ss.length oc λj hj=>by rw [hW j hj];exact(hf j hj).1];rw [yqo ss _ ss.length (by rw [ztl];exact hn6) λj hj=>?_]
 .simp
 .have hso:=zld hg hj;have hsg:=hso.sg;by_cases h5:(ss.getD j d7).kind=5
  .rw [hS j hj h5];exact⟨((hf j hj).2 h5).1,λh1 h0=>((hf j hj).2 h5).2 oc⟩
  .have:=hso.sg0 h5;exact⟨λh=>oc,λ_ h=>oc⟩
theorem yq2{most:Int}{ss:List Slip}{ms:List SumR}(hg:Good most ss ms){p:zd6}(hp:p∈zah most ss ms):zh3 (zan ss ms (zc0 ss p)) (zjw most ss ms).1=false/\(zjw most ss ms).2=0:=by
 have hc:=(za2 most ss ms).2 hg;obtain⟨h1,h2⟩:=kbw.1 hp;have hok:okX ss ms p=true:=by have h3:zeh most ss ms (zc0 ss p)=true:=h2;simp only [zeh,ka0] at h3;simp only [okX,ka0];exact⟨h3.2,h3.1.2⟩
 have hm:zan ss ms (zc0 ss p)∈zht ss ms (zgf ss):=kav.2 ⟨p,kbw.2 ⟨h1,hok⟩,rfl⟩;have hne:zht ss ms (zgf ss)≠[]:=λh=>by rw [h] at hm;cases hm
 rw [zjw,if_neg (by simp [hc]),if_neg hne];exact⟨(zhf (kbn.2 hne)).2 _ hm,rfl⟩
theorem yrg{p:Nat->Bool}{i:Nat}{n:Nat}(hi:i<n)(h:p i=false):zcg p n<n:=by
 have:=zjz p n;rcases kae (zcg p n) n with h1|h1
 .exact h1
 .have:=yjx (p:=p) oc i hi;rw [h] at this;cases this
theorem yqg{p:Nat->Bool}{i n:Nat}(hi:i<n):yq5 (zpe (zcg p n) n) (p i)=true:=by
 unfold yq5 zpe;cases h:p i
 .have:=yrg hi h;split
  .simp
  .rw [if_neg oc];simp
 .have:=yjw hi h;rw [if_neg oc];split<;>simp
theorem yrh{most:Int}{ss:List Slip}{ms:List SumR}(K A:Int){i:Nat}(hi:i<(zah most ss ms).length):(zh2 (zzd most ss ms K A) (zah most ss ms).length).1<=zzd most ss ms K A i/\zzd most ss ms K A i<=(zh2 (zzd most ss ms K A) (zah most ss ms).length).2 :=
 (yp7 (zzd most ss ms K A) _ oc).1 i hi
def GoT(u:Nat->ByteArray)(fn:Func)(k:Nat)(Q:Exit->AS->Prop)(s:AS):Prop:=∀c,tl k fn.body=some c->AW (cx (zch u)) none fn.ntmps c Q s
theorem yqp{u:Nat->ByteArray}{fn:Func}{k N:Nat}{Q:Exit->AS->Prop}{s:AS}{c:Code}(e:tl k fn.body=some c)(hN:fn.ntmps=N)(h:AW (cx (zch u)) none N c Q s):GoT u fn k Q s:=λc' e'=>by subst hN;exact kaw (e.symm.trans e')▸h
theorem yp4{u:Nat->ByteArray}{fn:Func}{k N:Nat}{Q:Exit->AS->Prop}{s s':AS}{c:Code}(h:GoT u fn k Q s')(e:tl k fn.body=some c)(hN:fn.ntmps=N)(hs:Sub (zch u) N s s'):AW (cx (zch u)) none N c Q s:=by subst hN;exact zbx hs (h c e)
abbrev EndT(u:Nat->ByteArray)(fn:Func)(Q:Exit->AS->Prop):Prop:=∀e s,((e=.normal\/e=.ret)/\zck (cx (zch u)) s fn.results.toList=some (vb true))->Q e s
section
variable{G:zbf}{u:Nat->ByteArray}
noncomputable abbrev yq8:Func:=Tryz.f5
abbrev sR(most slip:Int)(ss:List Slip)(ms:List SumR)(WR:List Int)(SG:List Bool)(now W:List Int):AS:=[(2*3,.av (.val (.int .u8 slip))),(2*5,.av (.ptr 5 0)),(2*5+1,.cells 25 [vi most,.sl 7 (ss.map Slip.row),.sl 5 (ms.map SumR.row)]),(2*11,.av (.ptr 11 0)),(2*11+1,.cells 45 [.sl 1 (il WR),.sl 1 (bl SG)]),(2*17,.av (.sl 1 (il now))),(2*18,.av (.sl 1 (il W)))]
attribute [local irreducible] AOp AW ADr AFn ze1 AFt AOpJ
attribute [local irreducible] GoT
set_option maxRecDepth 20000
set_option maxHeartbeats 16000000
section
variable{most slip:Int}{ss:List Slip}{ms:List SumR}{WR:List Int}{SG:List Bool}{now W fx:List Int}{Q:Exit->AS->Prop}
theorem chr0{P G:Prop}(n:P)(h:Wr P->G:=by(intro n;first|((with_reducible apply kC);first|exact gB ⟨_,hsum,.mk rfl n.p⟩|exact gB ⟨_,ham,.mk rfl n.p⟩|exact gB ⟨_,hha,.mk rfl n.p⟩|exact gK n.p|exact gS n.p)|exact⟨_,hsum,n.p⟩|exact⟨_,ham,n.p⟩|exact⟨_,hha,n.p⟩|exact sk n.p|exact ap n.p)):G:=h ⟨n⟩
theorem ehr0{G:Prop}(h:G:=by((repeat' (first|refine sy ?_|(refine aZ ?_;intros)|refine chr0 ?_|fail));refine fe ?_;rfl)):G:=h
theorem yrm(hsum:AFn (cx (zch u)) 7 [] (vb true))(hq0:0<=slip)(hq1:slip<256)(hnl:now.length=ss.length)(hA:ss.length≠0->∃L:List Int,AFn (cx (zch u)) 17 [bk most ss ms,vi (slip % ((ss.map Slip.row).length:Int))] (.tup [.sl 1 (il L),vi 0])/\AFn (cx (zch u)) 14 [.sl 1 (il L),vi (now.getD (slip % ((ss.map Slip.row).length:Int)).toNat 0)] (vb true))(hQ:EndT u yq8 Q):GoT u yq8 14 Q (sR most slip ss ms WR SG now W):=by
 have hlm:((ss.map Slip.row).length:Int)=(ss.length:Int):=od
 have q0:decide ((0:Int)=0)=true:=rfl;refine yqp rfl Tryz.ntmps5 ?_;by_cases h0:ss.length=0
 .have hd2:decide (((ss.map Slip.row).length:Int)=0)=true:=decide_eq_true oc;exact ehr0
 .have hd2:decide (((ss.map Slip.row).length:Int)=0)=false:=decide_eq_false oc;obtain⟨L,ham,hha⟩:=hA h0;have hr:0<=slip % ((ss.map Slip.row).length:Int)/\slip % ((ss.map Slip.row).length:Int)<((ss.map Slip.row).length:Int):=⟨Int.emod_nonneg _ oc,Int.emod_lt_of_pos _ oc⟩
  obtain⟨k,hk⟩:∃k:Nat,slip % ((ss.map Slip.row).length:Int)=(k:Int):=⟨(slip % ((ss.map Slip.row).length:Int)).toNat,oc⟩;have hmod:0<=slip/\0<((ss.map Slip.row).length:Int):=⟨hq0,oc⟩;rw [hk,kb9] at hha;have vk:=ykt (show k<now.length by omega);have lk:k<(il now).length:=by simp;omega
  exact ehr0
theorem chr1{P G:Prop}(n:P)(h:Wr P->G:=by(intro n;first|((with_reducible apply kC);first|exact gB ⟨_,hsg,.mk rfl n.p⟩|exact gB ⟨_,hsa,.mk rfl n.p⟩|exact gK n.p|exact gS n.p)|exact⟨_,hsg,n.p⟩|exact⟨_,hsa,n.p⟩|exact sk n.p|exact ap n.p)):G:=h ⟨n⟩
theorem yrn(hfl:fx.length<=1000)(h14:GoT u yq8 14 Q (sR most slip ss ms WR SG now W))(hF:∀i,i<fx.length->∃x b t,fx[i]?=some x/\SG[i]?=some b/\AFn (cx (zch u)) 25 [bk most ss ms,vi x] (.tup [vi t,vi 0])/\AFn (cx (zch u)) 33 [vi t,vb b] (vb true)):GoT u yq8 13 Q (sR most slip ss ms WR SG now W++[(2*27,.av (.sl 1 (il fx)))]):=by
 have q0:(!decide ((0:Int)=0))=false:=rfl;have q9:decide ((0:Int)=0)=true:=rfl;refine yqp rfl Tryz.ntmps5 ?_;(repeat' (first|refine sy ?_|(refine aZ ?_;intros)|refine chr1 ?_|fail));refine zam fx.length (λi=>sR most slip ss ms WR SG now W++[(2*27,.av (.sl 1 (il fx))),(2*28,.av (vi i))]) ?_ ?_
 .exact si
 .intro i hi;rcases kae i fx.length with hlt|hge
  .obtain⟨x,b,t,hx,hb,hsg,hsa⟩:=hF i hlt;have hd:decide ((i:Int)<((il fx).length:Int))=true:=by simp;omega
   have hi1:vi ((i+1:Nat):Int)=vi ((i:Int)+1):=od
   have hr1:(il fx)[i]?=some [vi x]:=zcm hx;have hl1:i<(il fx).length:=by simp;omega
   have hr2:(bl SG)[i]?=some [vb b]:=by simp [hb]
   have hl2:i<(bl SG).length:=by have:=(kab.1 hb).1;simp;omega
   (repeat' (first|refine sy ?_|(refine aZ ?_;intros)|refine chr1 ?_|fail));refine⟨hlt,?_⟩;rw [hi1];exact si
  .obtain rfl:i=fx.length:=oc
   have hd:decide ((fx.length:Int)<((il fx).length:Int))=false:=od
   (repeat' (first|exact yp4 h14 rfl Tryz.ntmps5 oT|refine sy ?_|(refine aZ ?_;intros)|refine chr1 ?_|fail))
theorem chr2{P G:Prop}(n:P)(h:Wr P->G:=by(intro n;first|((with_reducible apply kC);first|exact gB ⟨_,hfa,.mk rfl n.p⟩|exact gB ⟨_,hha,.mk rfl n.p⟩|exact gB ⟨_,hsa,.mk rfl n.p⟩|exact gB ⟨_,hfx,.mk rfl n.p⟩|exact gK n.p|exact gS n.p)|exact⟨_,hfa,n.p⟩|exact⟨_,hha,n.p⟩|exact⟨_,hsa,n.p⟩|exact⟨_,hfx,n.p⟩|exact sk n.p|exact ap n.p)):G:=h ⟨n⟩
theorem yro(hm:ms.length<=20)(hfx:AFn (cx (zch u)) 21 [bk most ss ms] (.sl 1 (il fx)))(h13:GoT u yq8 13 Q (sR most slip ss ms WR SG now W++[(2*27,.av (.sl 1 (il fx)))]))(hF:∀i:Nat,i<ms.length->∃b t,AFn (cx (zch u)) 19 [bk most ss ms,vi i] (.tup [vi t,vi 0])/\AFn (cx (zch u)) 14 [.sl 1 (il W),vi i] (vb b)/\AFn (cx (zch u)) 33 [vi t,vb b] (vb true)):GoT u yq8 11 Q (sR most slip ss ms WR SG now W):=by
 have q0:(!decide ((0:Int)=0))=false:=rfl;have q9:decide ((0:Int)=0)=true:=rfl;refine yqp rfl Tryz.ntmps5 ?_;(repeat' (first|refine sy ?_|(refine aZ ?_;intros)|refine chr2 ?_|fail));refine zam ms.length (λi=>sR most slip ss ms WR SG now W++[(2*24,.av (vi i))]) ?_ ?_
 .exact si
 .intro i hi;rcases kae i ms.length with hlt|hge
  .obtain⟨b,t,hfa,hha,hsa⟩:=hF i hlt;have hd:decide ((i:Int)<((ms.map SumR.row).length:Int))=true:=by simp;omega
   have hi1:vi ((i+1:Nat):Int)=vi ((i:Int)+1):=od
   (repeat' (first|refine sy ?_|(refine aZ ?_;intros)|refine chr2 ?_|fail));refine⟨hlt,?_⟩;rw [hi1];exact si
  .obtain rfl:i=ms.length:=oc
   have hd:decide ((ms.length:Int)<((ms.map SumR.row).length:Int))=false:=od
   (repeat' (first|exact yp4 h13 rfl Tryz.ntmps5 oT|refine sy ?_|(refine aZ ?_;intros)|refine chr2 ?_|fail))
theorem chr3{P G:Prop}(n:P)(h:Wr P->G:=by(intro n;first|((with_reducible apply kC);first|exact gB ⟨_,hw,.mk rfl n.p⟩|exact gB ⟨_,hih,.mk rfl n.p⟩|exact gB ⟨_,hpl,.mk rfl n.p⟩|exact gB ⟨_,hsu,.mk rfl n.p⟩|exact gB ⟨_,hfw,.mk rfl n.p⟩|exact gB ⟨_,hso,.mk rfl n.p⟩|exact gB ⟨_,hhs,.mk rfl n.p⟩|exact gB ⟨_,hsm,.mk rfl n.p⟩|exact gK n.p|exact gS n.p)|exact⟨_,hw,n.p⟩|exact⟨_,hih,n.p⟩|exact⟨_,hpl,n.p⟩|exact⟨_,hsu,n.p⟩|exact⟨_,hfw,n.p⟩|exact⟨_,hso,n.p⟩|exact⟨_,hhs,n.p⟩|exact⟨_,hsm,n.p⟩|exact sk n.p|exact ap n.p)):G:=h ⟨n⟩
theorem real5{_bits kind K A x0 x1 SV:Int}{F:List Int}(h11:GoT u yq8 11 Q (sR most slip ss ms WR SG now W))(hnl:now.length=ss.length)(hw:AFn (cx (zch u)) 9 [.val (.int .u8 kind)] (.tup [vi K,vi A]))(hih:AFn (cx (zch u)) 29 [bk most ss ms,.sl 1 (il WR),.sl 1 (bl SG)] (.tup [vb true,vi 0]))(hpl:AFn (cx (zch u)) 12 [bk most ss ms,.sl 1 (il WR),.sl 1 (bl SG)] (.tup [.sl 1 (il now),.sl 1 (il W),vi 0]))
  (hsu:AFn (cx (zch u)) 11 [bk most ss ms,vi K,vi A] (.tup [.agg [vi x0,vi x1],vi 0])) (hfw:AFn (cx (zch u)) 30 [bk most ss ms] (.tup [.sl 1 (il F),vi 0])) (hso:AFn (cx (zch u)) 13 [bk most ss ms,.sl 1 (il now),vi K,vi A] (vi SV)) (hhs:AFn (cx (zch u)) 31 [.agg [vi x0,vi x1],vi SV] (vb true)) (hsm:AFn (cx (zch u)) 32 [.sl 1 (il W),.sl 1 (il F)] (vb false)) :
  GoT u yq8 5 Q [(2*3,.av (.val (.int .u8 slip))),(2*4,.av (.val (.int .u8 kind))),(2*5,.av (.ptr 5 0)),(2*5+1,.cells 25 [vi most,.sl 7 (ss.map Slip.row),.sl 5 (ms.map SumR.row)]),(2*11,.av (.ptr 11 0)),(2*11+1,.cells 45 [.sl 1 (il WR),.sl 1 (bl SG)])]:=by
 have hTq:decide (((il now).length:Int)=((ss.map Slip.row).length:Int))=true:=decide_eq_true (by simp [hnl])
 have hTn:(!decide (((il now).length:Int)=((ss.map Slip.row).length:Int)))=false:=by rw [hTq];rfl
 have q0:(!decide ((0:Int)=0))=false:=rfl
 have q9:decide ((0:Int)=0)=true:=rfl
 refine yqp rfl Tryz.ntmps5 ?_
 (repeat' (first|(with_reducible refine gED ?_ ot)|exact yp4 h11 rfl Tryz.ntmps5 oT|refine sy ?_|(refine aZ ?_;intros)|refine chr3 ?_|fail))
end
theorem chr4{P G:Prop}(n:P)(h:Wr P->G:=by(intro n;first|((with_reducible apply kC);first|exact gB ⟨_,fit_a _ _ _,.mk rfl n.p⟩|exact gB ⟨_,hsum,.mk rfl n.p⟩|exact gB ⟨_,hre,.mk rfl n.p⟩|exact gB ⟨_,htr,.mk rfl n.p⟩|exact gK n.p|exact gS n.p)|exact⟨_,fit_a _ _ _,n.p⟩|exact⟨_,hsum,n.p⟩|exact⟨_,hre,n.p⟩|exact⟨_,htr,n.p⟩|exact sk n.p|exact ap n.p)):G:=h ⟨n⟩
theorem ehr1{G:Prop}(h:G:=by((repeat' (first|refine sy ?_|(refine aZ ?_;intros)|refine chr4 ?_|fail));refine fe ?_;rfl)):G:=h
theorem yq6(u:Nat->ByteArray)(hsum:AFn (cx (zch u)) 7 [] (vb true))(most:Int)(ss:List Slip)(ms:List SumR)(ps:List Nat)(q slip kind:Int)(hp:∀x∈ps,x<65536)(hq0:0<=q)(hq1:q<256)(hs0:0<=slip)(hs1:slip<256)(hk0:0<=kind)(hk1:kind<256) :
  Top (cx (zch u)) 5 [bk most ss ms,.sl 1 (ygx ps),.val (.int .u8 q),.val (.int .u8 slip),.val (.int .u8 kind)] (vb true):=by
 refine top_by Tryz.func5 ot rfl Tryz.ntmps5 rfl rfl ?_ rfl
 refine zab λQ hQ=>?_
 by_cases hfit:(ss.length<=20/\ms.length<=20)/\zak most ss ms=0
 case neg =>have hd1:decide ((ss.length<=20/\ms.length<=20)/\zak most ss ms=0)=false:=decide_eq_false hfit;exact ehr1
 have hd1:decide ((ss.length<=20/\ms.length<=20)/\zak most ss ms=0)=true:=decide_eq_true hfit
 obtain⟨⟨hn,hm⟩,hc⟩:=hfit
 have hg:=(za2 most ss ms).1 hc
 have hre:=yhv (G:=zch u) most ss ms ps hp hn hg.slip
 have hwok:=yht hg ps
 have hwl:=ygw ss ps ss.length
 have hsl:=yg0 ss ps ss.length
 have htr:=yj6 (G:=zch u) most ss ms (ygy ss ps ss.length) (ygv ss ps ss.length) (zc7 ss (ygy ss ps ss.length,ygv ss ps ss.length)) q ⟨hq0,hq1⟩ hn hm hg.slip hwl hsl rfl (zma _ _ _ hwok _) hg.k0
 cases hb:zf9 ss (zc7 ss (ygy ss ps ss.length,ygv ss ps ss.length)) with
 | false =>rw [hb] at htr;exact ehr1
 | true =>
   rw [hb] at htr;have hnl:=zb6 ss (ygy ss ps ss.length,ygv ss ps ss.length);have hmem:=yj0 (q:=q) ps hg hb;have hg':=yj1 (q:=q) hg hnl (zma _ _ _ hwok _);have hm':(yja most q ss (zc7 ss (ygy ss ps ss.length,ygv ss ps ss.length)) ms ms.length).1.length<=20:=by rw [yjc];exact hm
   generalize (yja most q ss (zc7 ss (ygy ss ps ss.length,ygv ss ps ss.length)) ms ms.length).1=ms' at htr hmem hg' hm';rw [zg9 hg'] at hmem;obtain⟨p,hpm,hpe⟩:=kav.1 hmem;have hR1:(toR ss p).1=ygy ss ps ss.length:=by rw [hpe]
   have hR2:(toR ss p).2=ygv ss ps ss.length:=by rw [hpe]
   rw [<-hR1,<-hR2] at htr hre;clear hmem hR1 hR2 hpe hwok hwl hsl hb hnl;obtain⟨h0,hh0⟩:=kba hpm;have hh1:=(kab.1 hh0).1;have hgd:(zah most ss ms').getD h0 d12=p:=by simp [hh0]
   have hL:zbt most ss ms' 0=0:=by rw [look_if hg',if_neg oc]
   obtain⟨⟨l1,l2⟩,hab⟩:=ziu hg' hpm;obtain⟨y1,y2,y3⟩:=yqh hg' hpm;have n6:=hg'.nss;have m6:=hg'.nms;have hR1:(toR ss p).1.length<=100000:=by simp [toR];omega
   have hpl:=z9z (u:=u) most ss ms' (toR ss p).1 (toR ss p).2 hn hm' hR1;rw [y1,y2,y3] at hpl;have hih:=yq9 (u:=u) most ss ms' (toR ss p).1 (toR ss p).2 hn hm' hR1;rw [y1,yra hg' hpm] at hih;have hw:=whatL_a (G:=zch u) kind hk0 hk1;have hwo:=what_ok hk0;have hsu:=sum_a (u:=u) most ss ms' (yki kind) (ykj kind) hn hm';have hKz:=zy0 hwo;generalize yki kind=K at *;generalize ykj kind=A at *
   rw [show zyr most ss ms' K A=(zh2 (zzd most ss ms' K A) (zah most ss ms').length,0) by rw [zyr,hwo,hL,if_neg od]] at hsu;have hin:=yrh (most:=most) (ss:=ss) (ms:=ms') K A hh1;rw [show zzd most ss ms' K A h0=yri ss K A p by rw [yrd,zzd,hgd]] at hin;have hso:=zvj (G:=zch u) most ss ms' (yqj ss p) K A hKz.1 hn (yqm n6 _) (yre hab);change AFn _ _ _ (vi (yri ss K A p)) at hso
   have hhs:=ykb (G:=zch u) (zh2 (zzd most ss ms' K A) (zah most ss ms').length).1 (zh2 (zzd most ss ms' K A) (zah most ss ms').length).2 (yri ss K A p);rw [decide_eq_true hin] at hhs;obtain⟨f1,f2⟩:=yq2 hg' hpm;have hfw:=zwk (u:=u) most ss ms' hn hm';rw [f2,if_neg od] at hfw;have hwl:(zan ss ms' (zc0 ss p)).length<=100000:=by have:=yp9 ss ms' (zc0 ss p);omega
   have hfl:(zjw most ss ms').1.length<=100000:=by
    have hne:zht ss ms' (zgf ss)≠[]:=λh=>by rw [zjw,if_neg (by simp [(za2 most ss ms').2 hg']),if_pos h] at f2;cases f2
    rw [zjw,if_neg (by simp [(za2 most ss ms').2 hg']),if_neg hne];obtain⟨p2,_,e2⟩:=kav.1 (zhf (kbn.2 hne)).1;rw [<-e2];exact kak (yp9 ss ms' (zc0 ss p2)) oc
   have hsm:=zq8 (G:=zch u) _ _ hwl hfl;rw [f1] at hsm;have hfx:=zsd (G:=zch u) most ss ms' hn;have hnl:(yqj ss p).length=ss.length:=yqm n6 p;have h14:GoT u yq8 14 Q (sR most slip ss ms' (toR ss p).1 (toR ss p).2 (yqj ss p) (zan ss ms' (zc0 ss p))):=yrm hsum hs0 hs1 hnl (λhne=>by
    have hlm:((ss.map Slip.row).length:Int)=(ss.length:Int):=od
    have hr:0<=slip % ((ss.map Slip.row).length:Int)/\slip % ((ss.map Slip.row).length:Int)<((ss.map Slip.row).length:Int):=⟨Int.emod_nonneg _ oc,Int.emod_lt_of_pos _ oc⟩;generalize slip % ((ss.map Slip.row).length:Int)=ii at hr;obtain⟨k,hk⟩:∃k:Nat,ii=(k:Int):=⟨ii.toNat,oc⟩;have hkl:k<ss.length:=oc
    have ham:=ymf (u:=u) most ss ms' ii hn hm';have hown:ykm ss ii=0:=if_pos (decide_eq_true oc);have hav:ym3 most ss ms' ii=yls ((zah most ss ms').map λp=>(yqj ss p).getD k 0):=by unfold ym3;rw [hown,hL,if_pos rfl,ynm,hk,kb9,yq4 _ _ _ hkl]
    rw [hav,hown,hL] at ham;have hHl:=zfd hg';have sl2:(yls ((zah most ss ms').map λp=>(yqj ss p).getD k 0)).length<=100000:=by have:=yqr ((zah most ss ms').map λp=>(yqj ss p).getD k 0);rw [ka6] at this;omega
    have hha:=hasR_a (G:=zch u) _ ((yqj ss p).getD k 0) sl2;rw [decide_eq_true ((yk7 _).2 _ |>.2 (kav.2 ⟨p,hpm,rfl⟩))] at hha;rw [hk,kb9];exact⟨_,hk▸ham,hha⟩) hQ
   have h13:=yrn (fx:=zae ss ss.length) (by have:=hg'.fix;omega) h14 (λi hi=>by
    have hx:(zae ss ss.length)[i]?=some ((zae ss ss.length).getD i 0):=by simp [hi]
    have hbd:=z1u ss ss.length _ (kag hx);obtain⟨k,hk⟩:∃k:Nat,(zae ss ss.length).getD i 0=(k:Int):=⟨((zae ss ss.length).getD i 0).toNat,oc⟩;rw [hk] at hx hbd;have hsg:(toR ss p).2[i]?=some (p.2.getD k false):=by simp only [toR,sgR,kaq,hx,kcc,kb9]
    have h5:(ss.getD k d7).kind=5:=by
     have hm2:=kag hx;simp only [zae,kav,kbw] at hm2;obtain⟨j,⟨_,hj⟩,e⟩:=hm2;obtain rfl:j=k:=oc
     simpa using hj
    have hfxk:zmj ss (k:Int)=true:=by
     have hkl:k<ss.length:=oc
     obtain⟨s,hs⟩:∃s,ss[k]?=some s:=⟨_,kaa hkl⟩;have hf:s.kind=5:=by rw [<-h5];simp [hs]
     simp [zmj,hs,hf];omega
    have hsd:=z4j (u:=u) most ss ms' (k:Int) hn hm';have ho:zob ss (k:Int)=0:=by rw [zob,if_pos hfxk]
    rw [zh4,ho,if_neg (by simp [hL])] at hsd;have hsy:=yqg (p:=zzt most ss ms' (k:Int).toNat) hh1;rw [show zzt most ss ms' (k:Int).toNat h0=p.2.getD k false by rw [zzt,hgd,kb9]] at hsy;have hsa:=yrc (G:=zch u) (zpe (zcg (zzt most ss ms' (k:Int).toNat) (zah most ss ms').length) (zah most ss ms').length) (p.2.getD k false);rw [hsy] at hsa;exact⟨_,_,_,hx,hsg,hsd,hsa⟩)
   have h11:=yro hm' hfx h13 (λi hi=>by
    have hfa:=zuj (u:=u) most ss ms' (i:Int) hn hm';have hos:zgc ms' (i:Int)=0:=by rw [zgc,if_pos (decide_eq_true oc)]
    rw [zge,hos,if_neg (by simp [hL])] at hfa;have hsy:=yqg (p:=zwn most ss ms' (i:Int)) hh1;rw [show zwn most ss ms' (i:Int) h0=decide ((i:Int)∈zan ss ms' (zc0 ss p)) by rw [zwn,hgd]] at hsy;have hsa:=yrc (G:=zch u) (zpe (zcg (zwn most ss ms' (i:Int)) (zah most ss ms').length) (zah most ss ms').length) (decide ((i:Int)∈zan ss ms' (zc0 ss p)));rw [hsy] at hsa
    exact⟨_,_,hfa,hasR_a (G:=zch u) _ (i:Int) hwl,hsa⟩)
   have h5:=real5 (kind:=kind) (_bits:=q) h11 hnl hw hih hpl hsu hfw hso hhs hsm;clear h11 h13 h14;(repeat' (first|exact yp4 h5 rfl Tryz.ntmps5 oT|refine sy ?_|(refine aZ ?_;intros)|refine chr4 ?_|fail))
end
end Go.Ab.J
