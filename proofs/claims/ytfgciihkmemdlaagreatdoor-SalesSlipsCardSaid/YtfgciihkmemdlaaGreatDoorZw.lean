/- What all laws about sales rest on, beside any goroutines. Conditions: none. -/
import Derived.Test.YtfgciihkmemdlaaGreatDoorZg
import Derived.Test.YtfgciihkmemdlaaGreatDoorZv
namespace Go.Ab.J
open Go Go.Proofs Go.Kp
section
variable{κ:Type} [DecidableEq κ]
def upd(x:κ)(v:Value)(kvs:List (κ×Value)):List (κ×Value):=match zb4 x kvs 0 with
 | some (j,_)=>kvs.set j (x,v)
 | none=>kvs++[(x,v)]
def ycr(z:Value)(x:κ)(kvs:List (κ×Value)):Value:=((zb4 x kvs 0).map (·.2)).getD z
theorem zm0(a:κ):∀(kvs:List (κ×Value)) (i:Nat),(zb4 a kvs i).map (·.2)=(zb4 a kvs 0).map (·.2)
 | [],_=>rfl
 | (k,v)::r,i=>by
   simp only [zb4];split
   .rfl
   .rw [zm0 a r (i+1),zm0 a r (0+1)]
theorem zsg(a x:κ)(v:Value):∀(kvs:List (κ×Value)) (i:Nat),zb4 x kvs 0=none->(zb4 a (kvs++[(x,v)]) i).map (·.2)=if a=x then some v else (zb4 a kvs i).map (·.2)
 | [],i,_=>by simp only [kdn,zb4];by_cases h:a=x<;>simp [h]
 | (k,u)::r,i,hn=>by
   simp only [zb4] at hn;split at hn
   .cases hn
   .rename_i hk;have hn':zb4 x r 0=none:=by
      have:=zm0 x r (0+1);rw [hn] at this;simpa using this.symm
    simp only [List.cons_append,zb4];by_cases h1:a=k
    .subst h1;simp [show ¬a=x fromλe=>hk e.symm]
    .rw [if_neg h1,if_neg h1];exact zsg a x v r (i+1) hn'
theorem zsf(a x:κ)(v:Value):∀(kvs:List (κ×Value)) (i j:Nat) (u:Value),zb4 x kvs i=some (i+j,u)->(zb4 a (kvs.set j (x,v)) i).map (·.2)=if a=x then some v else (zb4 a kvs i).map (·.2)
 | [],i,j,u,h=>by cases h
 | (k,w)::r,i,j,u,h=>by
   simp only [zb4] at h;split at h
   .rename_i hk;subst hk;simp only [kap,Prod.mk.injEq] at h;have hj:j=0:=oc
    subst hj;simp only [List.set_cons_zero,zb4];by_cases h1:a=x<;>simp [h1]
   .rename_i hk;obtain⟨m,hm,_⟩:=zlg h;obtain⟨j',rfl⟩:∃j',j=j'+1:=⟨j-1,oc⟩;simp only [List.set_cons_succ,zb4];by_cases h1:a=k
    .subst h1;simp [show ¬a=x fromλe=>hk e.symm]
    .rw [if_neg h1,if_neg h1];exact zsf a x v r (i+1) j' u (by rw [h];congr 2;omega)
theorem zy2(z:Value)(a x:κ)(v:Value)(kvs:List (κ×Value)):ycr z a (upd x v kvs)=if a=x then v else ycr z a kvs:=by
 unfold ycr upd;cases h:zb4 x kvs 0 with
 | none =>simp only;rw [zsg a x v kvs 0 h];split<;>rfl
 | some p =>obtain⟨j,u⟩:=p;simp only;rw [zsf a x v kvs 0 j u (oa h)];split<;>rfl
end
section
variable{C:Cx}{N:Nat}{s:AS}{ty:TypeId}{pos:String}{af:Array Edge}{g:Option (Nat×Bool)}{κ:Type} [DecidableEq κ]{ek:κ->Value}{kt et:TypeId}{t:TypeId}{x y z:Operand}{i:Nat}{kvs:List (κ×Value)}{a0:κ}{kA:AV}
theorem zs0{v:Value}(L:zkn C.P kt ek)(ht:C.P.underlying t=some (.map kt et))(hx:ev s x=some (.own i))(hl:zac s (2*i+1)=some (.mp (zum ek kvs)))(hy:ev s y=some kA)(hk:∀(E:Env) (w:World) v,Rep E w kA v->v=ek a0)(hv:ev s z=some (.val v)) :
  AOp C N ⟨none,.mapUpdate t x y z,ty,pos,af,g⟩ (rds x++rds y++rds z++[2*i+1]) s [(2*i+1,.mp (zum ek (upd a0 v kvs)))]:=by
 unfold upd
 cases h:zb4 a0 kvs 0 with
 | none=>exact zkm L ht hx hl hy hk hv h
 | some p=>exact zs1 L ht hx hl hy hk hv h
end
def mpU(l:List Int):Nat->List (Int×Value)
 | 0=>[]
 | q+1=>upd (l.getD q 0) (.int .i64 (zcg (za0 l q) q+1)) (mpU l q)
theorem z6e(l:List Int){i k:Nat}(h:l.getD i 0=l.getD k 0)(n:Nat):zcg (za0 l i) n=zcg (za0 l k) n:=by
 have:za0 l i=za0 l k:=funext λj=>by simp only [za0];rw [h]
 rw [this]
theorem z0s(l:List Int)(i:Nat):∀q,ycr (.int .i64 0) (l.getD i 0) (mpU l q)=.int .i64 (zcg (za0 l i) q)
 | 0=>rfl
 | q+1=>by
   simp only [mpU];rw [zy2];by_cases h:l.getD i 0=l.getD q 0
   .have hs:za0 l i q=true:=by simp only [za0];exact decide_eq_true h.symm
    rw [if_pos h,z6e l h.symm q];simp [zcg,hs]
   .have hs:za0 l i q=false:=by simp only [za0];exact decide_eq_false λe=>h e.symm
    rw [if_neg h,z0s l i q];simp [zcg,hs]
def zkr(l:List Int):Nat->Nat
 | 0=>0
 | q+1=>max (zkr l q) (zcg (za0 l q) q+1)
theorem zzw(l:List Int):∀q,zkr l q<=q
 | 0=>kac _
 | q+1=>by have:=zzw l q;have:=zjz (za0 l q) q;simp only [zkr];omega
theorem zzv(l:List Int){a b:Nat}(h:a<=b):zkr l a<=zkr l b:=by
 induction h with
 | refl=>exact kac _
 | step h ih=>simp only [zkr];omega
def ybr(most:Int)(ss:List Slip)(ms:List SumR)(i:Nat):List Int:=(zah most ss ms).map λp=>(zc0 ss p).getD i 0
def zj7(most:Int)(ss:List Slip)(ms:List SumR)(i:Nat):Nat:=zkr (ybr most ss ms i) (zah most ss ms).length
def zyu(most:Int)(ss:List Slip)(ms:List SumR):(Int×Int)×Int :=
 if zbt most ss ms 0≠0 then ((0,0),zbt most ss ms 0) else (((zhj (zj7 most ss ms) (zah most ss ms).length ss.length).1,((zhj (zj7 most ss ms) (zah most ss ms).length ss.length).2:Int)),0)
theorem zo9:Tryz.prog.underlying 161=some (.map 3 3):=by kernel_rfl
section
variable{u:Nat->ByteArray}
attribute [local irreducible] AOp AW ADr AFn ze1 AFt AOpJ
set_option maxRecDepth 20000
set_option maxHeartbeats 16000000
theorem zys{P G:Prop}(n:P)(h:Wr P->G:=by(intro n;first|((with_reducible apply kC);first|exact gB ⟨_,zgt hl,.mk rfl n.p⟩|exact gB ⟨_,zhr hn hm hl,.mk rfl n.p⟩|exact gK n.p|exact gS n.p)|exact⟨_,zgt hl,n.p⟩|exact⟨_,zhr hn hm hl,n.p⟩|exact sk n.p|exact ap n.p)):G:=h ⟨n⟩
theorem ett0{G:Prop}(h:G:=by((repeat' (first|refine sx ?_|(refine aZ ?_;intros)|refine zys ?_|fail));refine fe ?_;rfl)):G:=h
theorem ett1{G:Prop}(h:G:=by((repeat' (first|refine sx ?_|(refine aZ ?_;intros)|refine zys ?_|(with_reducible apply_assumption -exfalso -symm)));refine⟨hlt,?_⟩;rw [hsucc];exact si)):G:=h
theorem ask_a(most:Int)(ss:List Slip)(ms:List SumR)(hn:ss.length<=20)(hm:ms.length<=20) :
  AFn (cx (zch u)) 45 [bk most ss ms] (.tup [vi (zyu most ss ms).1.1,vi (zyu most ss ms).1.2,vi (zyu most ss ms).2]):=by
 refine z2z Tryz.func45 rfl Tryz.ntmps45 rfl rfl rfl (λQ hQ=>?_) rfl
 by_cases hl:zbt most ss ms 0=0
 case neg =>
  have hF:zyu most ss ms=((0,0),zbt most ss ms 0):=by rw [zyu,if_pos hl]
  have hdl:decide (zbt most ss ms 0=0)=false:=oa hl
  rw [hF] at hQ;refine wR ?_;exact ett0
 obtain⟨hg,_,hne⟩:=zme hl
 have hF:zyu most ss ms=(((zhj (zj7 most ss ms) (zah most ss ms).length ss.length).1,((zhj (zj7 most ss ms) (zah most ss ms).length ss.length).2:Int)),0):=by rw [zyu,if_neg (by simp [hl])]
 rw [hF] at hQ
 have hpos:0<(zah most ss ms).length:=kbn.2 hne
 have hr:(amR ss (zah most ss ms)).length=(zah most ss ms).length:=od
 have hl6:=zfd hg
 have hrs:(ss.map Slip.row).length=ss.length:=od
 refine wR ?_
 (repeat' (first|refine sx ?_|(refine aZ ?_;intros)|refine zys ?_|fail))
 refine z6p ?_
 (repeat' (first|refine sx ?_|(refine aZ ?_;intros)|refine zys ?_|fail))
 refine zam ss.length (λi=>[(2*24,.av (.sl 7 (ss.map Slip.row))),(2*25,.av (vi ((ss.map Slip.row).length:Int))),(2*26,.av (vi i)),(2*2,.av (vi (zhj (zj7 most ss ms) (zah most ss ms).length i).1)),(2*3,.av (vi ((zhj (zj7 most ss ms) (zah most ss ms).length i).2:Int))),
  (2*5,.av (.ptr 5 0)),(2*5+1,.cells 92 [vi most,.sl 7 (ss.map Slip.row),.sl 5 (ms.map SumR.row),.sl 12 (psR (zah most ss ms)),.sl 6 (amR ss (zah most ss ms))])]) ?_ ?_
 .have e0:vi ((zhj (zj7 most ss ms) (zah most ss ms).length 0).2:Int)=vi ((amR ss (zah most ss ms)).length:Int):=by rw [hr];rfl
  have e1:vi (zhj (zj7 most ss ms) (zah most ss ms).length 0).1=vi (-1):=rfl;exact si
 intro i hi
 rcases kae i ss.length with hlt|hge
 case inr =>
  have he:i=ss.length:=oc
  subst he;have hd:decide ((ss.length:Int)<((ss.map Slip.row).length:Int))=false:=od
  exact ett0
 have hi6:i<6:=by have:=hg.nss;omega
 have hd:decide ((i:Int)<((ss.map Slip.row).length:Int))=true:=decide_eq_true (by rw [hrs];omega)
 have hi1:vi ((i+1:Nat):Int)=vi ((i:Int)+1):=od
 obtain⟨lf,hlf⟩:∃lf,lf=(zhj (zj7 most ss ms) (zah most ss ms).length i).2:=⟨_,rfl⟩
 obtain⟨sl,hsl⟩:∃sl,sl=(zhj (zj7 most ss ms) (zah most ss ms).length i).1:=⟨_,rfl⟩
 obtain⟨am,ham⟩:∃am,am=ybr most ss ms i:=⟨_,rfl⟩
 have hsucc:zhj (zj7 most ss ms) (zah most ss ms).length (i+1)=if zkr am (zah most ss ms).length<lf then ((i:Int),zkr am (zah most ss ms).length) else (sl,lf):=by rw [hlf,hsl,ham];rfl
 rw [<-hlf,<-hsl]
 have hgq:∀(q:Nat) (x:zd6),(zah most ss ms)[q]?=some x->am.getD q 0=(zc0 ss x).getD i 0:=λq x hx=>by rw [ham];simp [ybr,hx]
 clear ham hlf hsl
 (repeat' (first|refine sx ?_|(refine aZ ?_;intros)|refine zys ?_|fail))
 refine z8n rfl (zax (zs2 oe rfl) (zkj rfl)) ?_
 (repeat' (first|refine sx ?_|(refine aZ ?_;intros)|refine zys ?_|fail))
 refine zbe (zah most ss ms).length (λq=>∀k,0<k->k<=q->zkr am k<lf) (λq=>[(2*24,.av (.sl 7 (ss.map Slip.row))),(2*25,.av (vi ((ss.map Slip.row).length:Int))),(2*26,.av (vi i)),(2*2,.av (vi sl)),(2*3,.av (vi (lf:Int))),
  (2*5,.av (.ptr 5 0)),(2*5+1,.cells 92 [vi most,.sl 7 (ss.map Slip.row),.sl 5 (ms.map SumR.row),.sl 12 (psR (zah most ss ms)),.sl 6 (amR ss (zah most ss ms))]),
  (2*7,.av (vi i)),(2*8,.av (.own 29)),(2*29+1,.mp (zum ekI (mpU am q))),(2*9,.av (vi (zkr am q:Int))),(2*31,.av (.sl 6 (amR ss (zah most ss ms)))),(2*32,.av (vi ((amR ss (zah most ss ms)).length:Int))),(2*33,.av (vi q))]) (λk h1 h2=>oc) ?_ ?_
 .exact si
 intro q hq hP
 have hrq:=zzw am q
 rcases kae q (zah most ss ms).length with hqlt|hqge
 case inr =>
  have he:q=(zah most ss ms).length:=oc
  subst he;have hdq:decide (((zah most ss ms).length:Int)<((amR ss (zah most ss ms)).length:Int))=false:=decide_eq_false oS;rw [if_pos (hP _ hpos (kac _))] at hsucc;exact ett1
 have hdq:decide ((q:Int)<((amR ss (zah most ss ms)).length:Int))=true:=decide_eq_true oS
 have hq1:vi ((q+1:Nat):Int)=vi ((q:Int)+1):=od
 obtain⟨x,hx⟩:∃x,(zah most ss ms)[q]?=some x:=⟨_,kaa hqlt⟩
 have hrow:(amR ss (zah most ss ms))[q]?=some (amL (zc0 ss x)):=by simp [hx]
 have hil:q<(amR ss (zah most ss ms)).length:=by rw [hr];exact hqlt
 have hxq:(amL (zc0 ss x))[0+i*1]?=some (vi (am.getD q 0)):=by rw [hgq q x hx];exact zm9 _ hi6
 have hc:=zjz (za0 am q) q
 have hv1:=z0s am q q
 have hv2:ycr (.int .i64 0) (am.getD q 0) (upd (am.getD q 0) (.int .i64 ((zcg (za0 am q) q:Int)+1)) (mpU am q))=.int .i64 ((zcg (za0 am q) q:Int)+1):=by rw [zy2,if_pos rfl]
 (repeat' (first|refine sx ?_|(refine aZ ?_;intros)|refine zys ?_|fail))
 refine zg2 rfl (zax (zs3 zt9 zo9 zu3 oe rfl rfl rfl (λE w v h=>h.val_eq) hv1) (zer rfl rfl ⟨_,rfl,λE w v h=>by rw [h.val_eq];exact .int _ _⟩ rfl)) ?_
 (repeat' (first|refine sx ?_|refine zys ?_|fail))
 refine zg2 rfl (zax (zs0 zt9 zo9 rfl rfl rfl (λE w v h=>h.val_eq) rfl) (zdh rfl rfl ⟨_,rfl,λE w v h=>by rw [h.val_eq];exact .int _ _⟩ rfl)) ?_
 (repeat' (first|refine sx ?_|(refine aZ ?_;intros)|refine zys ?_|fail))
 refine zg2 rfl (zax (zs3 zt9 zo9 zu3 oe rfl rfl rfl (λE w v h=>h.val_eq) hv2) (zer rfl rfl ⟨_,rfl,λE w v h=>by rw [h.val_eq];exact .int _ _⟩ rfl)) ?_
 have hm1:vi (zkr am (q+1):Int)=vi (max (zkr am q:Int) ((zcg (za0 am q) q:Int)+1)):=by simp only [zkr];congr 2;omega
 have hmp:mpU am (q+1)=upd (am.getD q 0) (.int .i64 ((zcg (za0 am q) q:Int)+1)) (mpU am q):=rfl
 by_cases hge:zkr am (q+1)<lf
 .have hdg:decide ((lf:Int)<=max (zkr am q:Int) ((zcg (za0 am q) q:Int)+1))=false:=decide_eq_false (by simp only [zkr] at hge;omega);(repeat' (first|refine sx ?_|(refine aZ ?_;intros)|refine zys ?_|fail));refine⟨hqlt,λk h1 h2=>?_,?_⟩
  .rcases kae q k with h|h
   .have:k=q+1:=oc
    subst this;exact hge
   .exact hP k h1 h
  .rw [hmp];exact si
 .have hdg:decide ((lf:Int)<=max (zkr am q:Int) ((zcg (za0 am q) q:Int)+1))=true:=decide_eq_true (by simp only [zkr] at hge;omega);have hmono:=zzv am (show q+1<=(zah most ss ms).length by omega);rw [if_neg oc] at hsucc;exact ett1
end
section
variable{G:zbf}
attribute [local irreducible] AOp AW ADr AFn ze1 AFt AOpJ
set_option maxRecDepth 20000
set_option maxHeartbeats 8000000
theorem zpu(x:Int):AFn (cx G) 171 [vi x] (vb false):=by
 refine aby Tryz.func171 Tryz.ntmps171 λQ hQ=>?_;have hd:decide (x=x)=true:=od
 (repeat' (first|refine sx ?_|(refine aZ ?_;intros)|refine w0 ?_|fail));refine fe ?_;simp
def zyk(x y:Int):Int:=if x<y then -1 else if y<x then 1 else 0
theorem ctu0{P G:Prop}(n:P)(h:Wr P->G:=by(intro n;first|((with_reducible apply kC);first|exact gB ⟨_,zpu _,.mk rfl n.p⟩|exact gK n.p|exact gS n.p)|exact⟨_,zpu _,n.p⟩|exact sk n.p|exact ap n.p)):G:=h ⟨n⟩
theorem etu0{G:Prop}(h:G:=by((repeat' (first|refine sx ?_|(refine aZ ?_;intros)|refine ctu0 ?_|fail));refine fe ?_;simp [zyk,h1,h2])):G:=h
theorem yef(x y:Int):AFn (cx G) 146 [vi x,vi y] (vi (zyk x y)):=by
 refine aby Tryz.func146 Tryz.ntmps146 λQ hQ=>?_;by_cases h1:x<y
 .have hd1:decide (x<y)=true:=oa h1
  (repeat' (first|refine sx ?_|(refine aZ ?_;intros)|refine ctu0 ?_|fail));refine fe ?_;simp [zyk,h1]
 .have hd1:decide (x<y)=false:=oa h1
  by_cases h2:y<x
  .have hd2:decide (y<x)=true:=oa h2
   exact etu0
  .have hd2:decide (y<x)=false:=oa h2
   exact etu0
def zyj:List Int->List Int->Int
 | [],[]=>0
 | [],_::_=>-1
 | _::_,[]=>1
 | x::xs,y::ys=>if zyk x y≠0 then zyk x y else zyj xs ys
theorem zwt:∀p q,decide (zyj p q<0)=zie p q
 | [],[]=>rfl
 | [],_::_=>rfl
 | _::_,[]=>rfl
 | x::xs,y::ys=>by
   have:=zwt xs ys;simp only [zyj,zie];by_cases h:x=y
   .subst h;simpa [zyk] using this
   .rw [if_neg h];by_cases h1:x<y
    .simp [zyk,h1]
    .have h2:y<x:=oc
     simp [zyk,h1,h2]
theorem ctu1{P G:Prop}(n:P)(h:Wr P->G:=by(intro n;first|((with_reducible apply kC);first|exact gB ⟨_,yef _ _,.mk rfl n.p⟩|exact gK n.p|exact gS n.p)|exact⟨_,yef _ _,n.p⟩|exact sk n.p|exact ap n.p)):G:=h ⟨n⟩
theorem etu1{G:Prop}(h:G:=by((repeat' (first|refine sx ?_|(refine aZ ?_;intros)|refine ctu1 ?_|fail));refine fe ?_;rfl)):G:=h
theorem zsl(p q:List Int)(hp:p.length<=100000)(_hq:q.length<=100000):AFn (cx G) 74 [.sl 1 (il p),.sl 1 (il q)] (vi (zyj p q)):=by
 refine aby Tryz.func74 Tryz.ntmps74 λQ hQ=>?_;have hlp:(il p).length=p.length:=od
 have hlq:(il q).length=q.length:=od
 (repeat' (first|refine sx ?_|(refine aZ ?_;intros)|refine ctu1 ?_|fail));refine zbe p.length (λi=>i<=q.length/\zyj p q=zyj (p.drop i) (q.drop i)) (λi=>[(2*0,.av (.sl 1 (il p))),(2*1,.av (.sl 1 (il q))),(2*9,.av (.sl 1 (il p))),(2*10,.av (vi ((il p).length:Int))),(2*11,.av (vi i))]) ⟨kb6 _,rfl⟩ ?_ ?_
 .exact si
 .rintro i hi ⟨hiq,hP⟩;rcases kae i p.length with hlt|hge
  .obtain⟨x,hx⟩:∃x,p[i]?=some x:=⟨_,kaa oc⟩;have hxr:(il p)[i]?=some [vi x]:=zcm hx;have hxl:i<(il p).length:=by rw [hlp];omega
   have hd1:decide ((i:Int)<((il p).length:Int))=true:=decide_eq_true (by rw [hlp];omega);have ep:p.drop i=x::p.drop (i+1):=by rw [<-List.getElem_cons_drop (h:=by omega)];congr 1;exact((kab.1 hx).2)
   have hi1:vi ((i+1:Nat):Int)=vi ((i:Int)+1):=od
   rcases kae i q.length with hltq|hgeq
   .obtain⟨y,hy⟩:∃y,q[i]?=some y:=⟨_,kaa oc⟩;have hyr:(il q)[i]?=some [vi y]:=zcm hy;have hyl:i<(il q).length:=by rw [hlq];omega
    have hd2:decide (((il q).length:Int)<=(i:Int))=false:=decide_eq_false (by rw [hlq];omega);have eq:q.drop i=y::q.drop (i+1):=by rw [<-List.getElem_cons_drop (h:=by omega)];congr 1;exact((kab.1 hy).2)
    rw [ep,eq] at hP;by_cases hxy:zyk x y=0
    .have hdx:decide (zyk x y=0)=true:=oa hxy
     (repeat' (first|refine sx ?_|(refine aZ ?_;intros)|refine ctu1 ?_|fail));refine⟨hlt,⟨hltq,by rw [hP];simp [zyj,hxy]⟩,?_⟩;exact si
    .have hdx:decide (zyk x y=0)=false:=oa hxy
     have hF:zyj p q=zyk x y:=by rw [hP];simp [zyj,hxy]
     rw [hF] at hQ;exact etu1
   .have hd2:decide (((il q).length:Int)<=(i:Int))=true:=decide_eq_true (by rw [hlq];omega);have eq:q.drop i=[]:=ka7.2 hgeq;have hF:zyj p q=1:=by rw [hP,ep,eq];rfl
    rw [hF] at hQ;exact etu1
  .have he:i=p.length:=oc
   subst he;have hd1:decide ((p.length:Int)<((il p).length:Int))=false:=decide_eq_false (by rw [hlp];omega);have ep:p.drop p.length=[]:=ka7.2 (kac _);rcases kae p.length q.length with h1|h1
   .have hd2:decide (((il p).length:Int)<((il q).length:Int))=true:=decide_eq_true oF;have hF:zyj p q=-1:=by
      rw [hP,ep];cases e2:q.drop p.length with
      | nil=>have:=ka7.1 e2;omega
      | cons y ys=>rfl
    rw [hF] at hQ;exact etu1
   .have hd2:decide (((il p).length:Int)<((il q).length:Int))=false:=decide_eq_false oF;have hF:zyj p q=0:=by rw [hP,ep,ka7.2 h1];rfl
    rw [hF] at hQ;exact etu1
theorem ctu2{P G:Prop}(n:P)(h:Wr P->G:=by(intro n;first|((with_reducible apply kC);first|exact gB ⟨_,zsl _ _ hp hq,.mk rfl n.p⟩|exact gK n.p|exact gS n.p)|exact⟨_,zsl _ _ hp hq,n.p⟩|exact sk n.p|exact ap n.p)):G:=h ⟨n⟩
theorem etu2{G:Prop}(h:G:=by((repeat' (first|refine sx ?_|(refine aZ ?_;intros)|refine ctu2 ?_|fail));refine fe ?_;rfl)):G:=h
theorem zsi(p q:List Int)(hp:p.length<=100000)(hq:q.length<=100000):AFn (cx G) 73 [.sl 1 (il p),.sl 1 (il q)] (vb (zh3 p q)):=by
 refine aby Tryz.func73 Tryz.ntmps73 λQ hQ=>?_;have hlp:(il p).length=p.length:=od
 have hlq:(il q).length=q.length:=od
 by_cases h1:p.length<q.length
 .have hd1:decide (((il p).length:Int)<((il q).length:Int))=true:=decide_eq_true oF;have hF:zh3 p q=true:=by simp [zh3,h1]
  rw [hF] at hQ;exact etu2
 .have hd1:decide (((il p).length:Int)<((il q).length:Int))=false:=decide_eq_false oF;by_cases h2:p.length=q.length
  .have hd2:decide (((il p).length:Int)=((il q).length:Int))=true:=decide_eq_true oF;have hF:zh3 p q=decide (zyj p q<0):=by rw [zwt];simp [zh3,h2]
   rw [hF] at hQ;exact etu2
  .have hd2:decide (((il p).length:Int)=((il q).length:Int))=false:=decide_eq_false oF;have hF:zh3 p q=false:=by simp [zh3,h1,h2]
   rw [hF] at hQ;exact etu2
abbrev ll(L:List (List Int)):List (List AV):=L.map λxs=>[.sl 1 (il xs)]
theorem zr1{L:List (List Int)}{i:Nat}{xs:List Int}(h:L[i]?=some xs):(ll L)[i]?=some [.sl 1 (il xs)]:=by simp [h]
def zdb(x0:List Int)(L:List (List Int)):Nat->List Int
 | 0=>x0
 | n+1=>if zh3 (L.getD n []) (zdb x0 L n)=true then L.getD n [] else zdb x0 L n
theorem zmi(x0:List Int)(L:List (List Int)):∀n,n<=L.length->zdb x0 L n=x0\/zdb x0 L n∈L
 | 0,_=>.inl rfl
 | n+1,h=>by
   simp only [zdb];split
   .right;have:L.getD n []=L[n]:=by simp [show n<L.length by omega]
    rw [this];exact kbf _
   .exact zmi x0 L n oc
theorem ctu3{P G:Prop}(n:P)(h:Wr P->G:=by(intro n;first|((with_reducible apply kC);first|exact gB ⟨_,zsi _ _ hxl hml,.mk rfl n.p⟩|exact gK n.p|exact gS n.p)|exact⟨_,zsi _ _ hxl hml,n.p⟩|exact sk n.p|exact ap n.p)):G:=h ⟨n⟩
theorem etu3{G:Prop}(h:G:=by((repeat' (first|refine sx ?_|(refine aZ ?_;intros)|refine ctu3 ?_|fail));refine⟨hlt,?_⟩;rw [hsucc];exact si)):G:=h
theorem yab(x0:List Int)(L:List (List Int))(h0:x0.length<=100000)(hL:L.length<=100000)(hx:∀x∈L,x.length<=100000):AFn (cx G) 72 [.val (.func (.func 73) #[] #[]),.sl 1 (il x0),.sl 1 (ll L)] (.sl 1 (il (zdb x0 L L.length))):=by
 refine aby Tryz.func72 Tryz.ntmps72 λQ hQ=>?_;have hr:(ll L).length=L.length:=od
 (repeat' (first|refine sx ?_|(refine aZ ?_;intros)|refine ctu3 ?_|fail));refine zam L.length (λi=>[(2*0,.av (.val (.func (.func 73) #[] #[]))),(2*1,.av (.sl 1 (il (zdb x0 L i)))),(2*9,.av (.sl 1 (ll L))),(2*10,.av (vi ((ll L).length:Int))),(2*11,.av (vi i))]) ?_ ?_
 .exact si
 .intro i hi;rcases kae i L.length with hlt|hge
  .obtain⟨x,hx1⟩:∃x,L[i]?=some x:=⟨_,kaa hlt⟩;have hrow:=zr1 hx1;have hil:i<(ll L).length:=by rw [hr];exact hlt
   have hgx:L.getD i []=x:=by simp [hx1]
   have hxl:=hx x (kag hx1);have hml:(zdb x0 L i).length<=100000:=(zmi x0 L i hi).elim (λh=>by rw [h];exact h0) λh=>hx _ h;have hd1:decide ((i:Int)<((ll L).length:Int))=true:=decide_eq_true oS;have hi1:vi ((i+1:Nat):Int)=vi ((i:Int)+1):=od
   have hsucc:zdb x0 L (i+1)=if zh3 x (zdb x0 L i)=true then x else zdb x0 L i:=by simp only [zdb];rw [hgx]
   cases hs:zh3 x (zdb x0 L i) with
   | true =>rw [hs,if_pos rfl] at hsucc;exact etu3
   | false =>rw [hs,if_neg od] at hsucc;exact etu3
  .have he:i=L.length:=oc
   subst he;have hd1:decide ((L.length:Int)<((ll L).length:Int))=false:=decide_eq_false oS;(repeat' (first|refine sx ?_|(refine aZ ?_;intros)|refine ctu3 ?_|fail));refine fe ?_;rfl
abbrev zgd(L:List (List Int)):List Int:=zdb (L.getD 0 []) (L.drop 1) (L.drop 1).length
end
section
variable{E:Env}{w:World}
theorem z4r{xs:List Int}{v:Value}{R:Nat->Prop}(hR:∀b,E.imm b->R b)(h:Rep E w (.sl 1 (il xs)) v):zfp R w v xs:=by
 generalize hrow:il xs=rows at h;cases h with
 | nil =>
   have:xs=[]:=oa hrow
   subst this;exact⟨none,0,rfl,λj x hj=>by simp at hj⟩
 | sl wd rows b o c val hb hw hc h =>subst hrow;refine⟨some ⟨b,o,none⟩,c,od,λj x hj=>⟨_,rfl,hR b hb,?_⟩⟩;have h1:=zcm hj;have h2:=(hc j _ 0 _ h1 rfl).2.2;rw [(h j _ 0 _ h1 rfl).val_eq] at h2;simpa [Addr.add_at] using h2
theorem zz4{xss:List (List Int)}{v:Value}{R:Nat->Prop}(hR:∀b,E.imm b->R b)(h:Rep E w (.sl 1 (ll xss)) v):zdz R w v xss:=by
 generalize hrow:ll xss=rows at h;cases h with
 | nil =>
   have:xss=[]:=oa hrow
   subst this;exact⟨none,0,rfl,λj x hj=>by simp at hj⟩
 | sl wd rows b o c val hb hw hc h =>
   subst hrow;refine⟨some ⟨b,o,none⟩,c,od,λj x hj=>⟨_,val j 0,rfl,hR b hb,?_,?_⟩⟩
   .have h2:=(hc j _ 0 _ (zr1 hj) rfl).2.2;simpa [Addr.add_at] using h2
   .exact z4r hR (h j _ 0 _ (zr1 hj) rfl)
theorem z42{O:Nat->Prop}{l:List Int}{v:Value}(h:zaw w O 3 zho v (ints l))(hI:∀b o,O b->w.heap[b]?=some o->Near o->E.imm b):Rep E w (.sl 1 (il l)) v:=by
 rcases h with ⟨rfl,h0⟩|⟨g,cap,cur,rfl,h1,h2,h3,h4,h5,h6,_⟩
 .have:l=[]:=by simpa [ints] using h0
  subst this;exact .nil 1
 .have hc:∀(i:Nat) x,l[i]?=some x->w.cell? ⟨g,i,none⟩=some (.int .i64 x):=λi x hx=>by
     have hlt:=(kab.1 hx).1;have e:(ints l)[i]?=some (.int .i64 x):=by simp [ints,hx]
     rw [<-h6,ka5,if_pos (by simpa [ints] using hlt)] at e;simp only [World.cell?,h2];simpa using e
  have hlen:(ints l).length=(il l).length:=by simp [ints]
  rw [hlen];refine Rep.sl (E:=E) (w:=w) 1 (il l) g 0 cap (λi _=>.int .i64 (l.getD i 0)) (hI g _ h1 h2 trivial) (λrow hr=>by
   obtain⟨x,_,rfl⟩:=kav.1 hr;rfl) ?_ ?_ (by rw [<-hlen];exact h3)
  all_goals
   intro i row j x hi2 hj
   obtain⟨y,hy,rfl⟩:∃y,l[i]?=some y/\row=[vi y]:=by
    rw [kaq] at hi2;cases hx:l[i]? with
    | none=>rw [hx] at hi2;cases hi2
    | some y=>rw [hx] at hi2;exact⟨y,rfl,oa hi2.symm⟩
   have hj0:j=0:=by have:=(kab.1 hj).1;simp at this;omega
   subst hj0
   cases hj
  .refine⟨rfl,rfl,?_⟩;have:=hc i y hy;simpa [hy] using this
  .have:l.getD i 0=y:=by simp [hy]
   rw [this];exact .val _
def fwG(u:Nat->ByteArray)(Fb g:Nat)(v:Value)(L:List (List Int)):zbf:=(Fb,[.val v])::(g,L.map λxs=>.sl 1 (il xs))::zch u
theorem zwa(k:Nat)(c:List AV)(l:zbf):ziw ((k,c)::l) k=some c:=by simp [ziw]
theorem z5k{k n:Nat}(h:k≠n)(c:List AV)(l:zbf):ziw ((k,c)::l) n=ziw l n:=by
 have:Nat.beq k n=false:=by cases hb:Nat.beq k n with|false=>rfl|true=>exact absurd (kaj hb) h
 simp only [ziw,this,cond_false]
theorem z4t{u:Nat->ByteArray}{I:Nat->Prop}{Fb g cap:Nat}{v:Value}{L:List (List Int)}(hc:L.length<=cap)(h1:1<=L.length)(hg:zb3 (fwG u Fb g v L) (zca I) w):Rep (zca I) w (.sl 1 (ll (L.drop 1))) (.slice (if cap=1 then some ⟨g,0,none⟩ else some ⟨g,0+1,none⟩) (L.length-1) (cap-1)):=by
 obtain⟨hi,_,val,hv⟩:=hg (g,L.map λxs=>.sl 1 (il xs)) (by simp [fwG]);have hlen:L.length-1=(ll (L.drop 1)).length:=od
 rw [hlen];have hrow:∀(o:Nat),(o=1\/L.drop 1=[])->Rep (zca I) w (.sl 1 (ll (L.drop 1))) (.slice (some ⟨g,o,none⟩) (ll (L.drop 1)).length (cap-1)):=λo ho=>by
  refine Rep.sl (E:=zca I) (w:=w) 1 (ll (L.drop 1)) g o (cap-1) (λi _=>val (i+1)) hi (λrow hr=>by
   obtain⟨x,_,rfl⟩:=kav.1 hr;rfl) ?_ ?_ (by rw [<-hlen];omega)
  all_goals
   intro i row j x hi2 hj
   obtain⟨y,hy,rfl⟩:∃y,(L.drop 1)[i]?=some y/\row=[.sl 1 (il y)]:=by
    rw [kaq] at hi2;cases hx:(L.drop 1)[i]? with
    | none=>rw [hx] at hi2;cases hi2
    | some y=>rw [hx] at hi2;exact⟨y,rfl,oa hi2.symm⟩
   have hj0:j=0:=by have:=(kab.1 hj).1;simp at this;omega
   subst hj0
   cases hj
   have hne:o=1:=ho.resolve_right λe=>by rw [e] at hy;simp at hy
   subst hne
   have hy2:L[i+1]?=some y:=by rw [kbb] at hy;rw [Nat.add_comm];exact hy
   obtain⟨q1,q2⟩:=hv (i+1) (.sl 1 (il y)) (by simp [hy2])
  .exact⟨rfl,rfl,by rw [show 1+i*1+0=i+1 by omega];exact q1⟩
  .exact q2
 by_cases hcap:cap=1
 .rw [if_pos hcap];exact hrow 0 (.inr (ka7.2 oc))
 .rw [if_neg hcap];exact hrow 1 (.inl rfl)
end
end Go.Ab.J
namespace Go.Ab.J
open Go Go.Proofs Go.Kp Go.RowKit
section
variable{u:Nat->ByteArray}
attribute [local irreducible] AOp AW ADr AFn ze1 AFt AOpJ
set_option maxRecDepth 20000
set_option maxHeartbeats 8000000
theorem z31:Tryz.prog.underlying 78=some (.slice 38):=by kernel_rfl
theorem ctx0{P G:Prop}(n:P)(h:Wr P->G:=by(intro n;first|((with_reducible apply kC);first|exact gB ⟨_,hleast,.mk rfl n.p⟩|exact gK n.p|exact gS n.p)|exact⟨_,hleast,n.p⟩|exact sk n.p|exact ap n.p)):G:=h ⟨n⟩
theorem z9s{Fb g cap:Nat}{v:Value}{L:List (List Int)}{Q:Exit->AS->Prop}(hFg:Fb≠g)(hv:v=.slice (some ⟨g,0,none⟩) L.length cap)(h1:1<=L.length)(hc:L.length<=cap)(hL:L.length<=100000)(hx:∀x∈L,x.length<=100000)
  (hQ:∀e s,(e=.normal\/e=.ret)/\zck (cx (fwG u Fb g v L)) s Tryz.f15.results.toList=some (.tup [.sl 1 (il (zgd L)),vi 0])->Q e s) :
  AW (cx (fwG u Fb g v L)) none 62 z76 Q [(2*12,.av (.val (.pointer (some ⟨Fb,0,none⟩))))]:=by
 have hG1:ziw (cx (fwG u Fb g v L)).G Fb=some [.val v]:=zwa _ _ _
 have hG2:ziw (cx (fwG u Fb g v L)).G g=some (L.map λxs=>.sl 1 (il xs)):=(z5k hFg _ _).trans (zwa _ _ _)
 obtain⟨x0,hx0⟩:∃x0,L[0]?=some x0:=⟨_,kaa oc⟩
 have hg0:L.getD 0 []=x0:=by simp [hx0]
 have hz0:(L.map λxs=>AV.sl 1 (il xs))[0+0*1]?=some (.sl 1 (il x0)):=by simp [hx0]
 have hleast:AFn (cx (fwG u Fb g v L)) 72 [.val (.func (.func 73) #[] #[]),.sl 1 (il x0),.val (.slice (if cap=1 then some ⟨g,0,none⟩ else some ⟨g,0+1,none⟩) (L.length-1) (cap-1))] (.sl 1 (il (zdb x0 (L.drop 1) (L.drop 1).length))):=by
  refine zsx (yab x0 (L.drop 1) (hx _ (kag hx0)) oy λx h=>hx x (kby h)) λI w vs hg hr=>?_;obtain⟨v1,vs,rfl,h2,hr⟩:=hr.inv;obtain⟨v2,vs,rfl,h3,hr⟩:=hr.inv;obtain⟨v3,vs,rfl,h4,hr⟩:=hr.inv;have:vs=[]:=kas hr.1.symm;subst this;rw [h4.val_eq];exact(((yf1.nil _ _).cons (z4t hc h1 hg)).cons h3).cons h2
 unfold zgd at hQ
 rw [hg0] at hQ
 subst hv
 have hp1:ptB (cx (fwG u Fb g (.slice (some ⟨g,0,none⟩) L.length cap) L)) [] (.val (.pointer (some ⟨Fb,0,none⟩)))=true:=by simp only [ptB,hG1];rfl
 have hp2:ptB (cx (fwG u Fb g (.slice (some ⟨g,0,none⟩) L.length cap) L)) [] (.val (.pointer (some ⟨g,0+0*1,none⟩)))=true:=by simp only [ptB,hG2];rfl
 refine z8i (wD ?_)
 refine zg2 rfl (zax (znb oe rfl hG1 rfl rfl rfl) (zm2 rfl hp1 rfl)) ?_
 refine zg2 rfl (zax (z62 (n:=0) oe rfl rfl rfl rfl h1) (zkj rfl)) ?_
 refine zg2 rfl (zax (znb oe rfl hG2 rfl rfl hz0) (zm2 rfl hp2 rfl)) ?_
 refine zg2 rfl (zax (znb oe rfl hG1 rfl rfl rfl) (zm2 rfl hp1 rfl)) ?_
 refine zg2 rfl (zax (z60 oe rfl rfl z31 rfl rfl h1) (z53 rfl rfl)) ?_
 (repeat' (first|refine sx ?_|refine ctx0 ?_|fail))
 refine fe ?_
 rfl
end
section
variable{u:Nat->ByteArray}
theorem zzz(A B:zbf)(s:AS):∀xs,z4o (cx A) s xs=z4o (cx B) s xs
 | []=>rfl
 | x::xs=>by simp only [z4o,zzz A B s xs];rfl
theorem z4m(A B:zbf)(s:AS)(l:List ResultVar):zck (cx A) s l=zck (cx B) s l:=by unfold zck;rw [zzz A B]
theorem z7r{E:Env}{w:World}{i o:Nat}{v:Value}(h:Rep E w (.ptr i o) v):v=.pointer (some ⟨E.mem i,o,none⟩):=by cases h;rfl
theorem yc8{E:Env}{w:World}{wd:Nat}{rows:List (List AV)}{v:Value}(h:Rep E w (.sl wd rows) v):∃ao c,v=.slice ao rows.length c:=by
 cases h with
 | nil=>exact⟨none,0,rfl⟩
 | sl=>exact⟨_,_,rfl⟩
abbrev fwS(most:Int)(ss:List Slip)(ms:List SumR)(xss:List (List Int)):AS:=[(2*1,.av (.ptr 1 0)),(2*1+1,.cells 25 [vi most,.sl 7 (ss.map Slip.row),.sl 5 (ms.map SumR.row)]),(2*6,.av (.ptr 6 0)),(2*6+1,.cells 78 [.own 1000]),(2*1000+1,.buf 1 38 (ll xss))]
theorem zvz:∀{K:Nat} {l:List Nat},l.Nodup->(∀x∈l,x<K)->l.length<=K
 | 0,l,_,h=>by
   cases l with
   | nil=>simp
   | cons x l=>have:=h x od;omega
 | K+1,l,hn,h=>by
   have h1:=zvz (K:=K) (hn.erase K) λx hx=>by have h2:=(List.Nodup.mem_erase_iff hn).1 hx;have:=h x h2.2;have:=h2.1;omega
   rw [List.length_erase] at h1;split at h1<;>omega
theorem zgs(m n:Nat):(zby m n).length<=n:=by
 unfold zby
 rw [ka6];exact kak (kbc _ _) od
theorem yc4{most:Int}{ss:List Slip}{ms:List SumR}{xss:List (List Int)}{Q:Exit->AS->Prop}(hm:ms.length<10)(hlen:xss.length<1000000)(hlens:∀xs∈xss,xs.length<1000000)(hne:∃m,m<2 ^ ms.length/\zby m ms.length∈xss)
  (hQ:∀(L:List (List Int)),1<=L.length->(∀xs,xs∈L↔xs∈xss/\∃m,m<2 ^ ms.length/\xs=zby m ms.length)->∀e s,(e=.normal\/e=.ret)/\zck (cx (zch u)) s Tryz.f15.results.toList=some (.tup [.sl 1 (il (zgd L)),vi 0])->Q e s) :
  AWn (cx (zch u)) 62 15 zwc Q (fwS most ss ms xss):=λPost F0 σ E a w Qr hr hQr=>by
 obtain⟨E1,hz,em,eb,hi⟩:=hr.rel.frz1 (i:=1000) (wd:=1) (T:=38) (rows:=ll xss) rfl
 have hr1:=hr.sub hz
 obtain⟨vs1,g1,g2,_⟩:=hr1.rel.mem 1 (.cells 25 [vi most,.sl 7 (ss.map Slip.row),.sl 5 (ms.map SumR.row)]) rfl
 obtain⟨vs6,g3,g4,_⟩:=hr1.rel.mem 6 (.cells 78 [.own 1000]) rfl
 have m1000:Rep E1 w (.sl 1 (ll xss)) (E1.buf 1000):=hr1.rel.mem 1000 (.frz 1 (ll xss)) rfl
 obtain⟨v0,r1,rfl,q0,k0⟩:=g2.inv
 obtain⟨v1,r2,rfl,q1,k1⟩:=k0.inv
 obtain⟨v2,r3,rfl,q2,k2⟩:=k1.inv
 obtain⟨v6,r4,rfl,q6,k6⟩:=g4.inv
 have e3:r3=[]:=kas k2.1.symm
 have e4:r4=[]:=kas k6.1.symm
 subst e3 e4
 have e6:=zda q6
 subst e6
 obtain⟨ao,c,rfl⟩:=yc8 q2
 have hF1:=z7r (hr1.rel.tmp 1 (.ptr 1 0) rfl)
 have hF6:=z7r (hr1.rel.tmp 6 (.ptr 6 0) rfl)
 have hsz:a.tmps.size=62:=hr1.rel.sz
 have hcl1:E1.imm (E1.mem 1)\/za1 E1 ((2*1000+1,za7.frz 1 (ll xss))::fwS most ss ms xss) (E1.mem 1)\/E1.mem 1∈E1.dfs:=.inr (.inl ⟨1,rfl⟩)
 have hcl6:E1.imm (E1.mem 6)\/za1 E1 ((2*1000+1,za7.frz 1 (ll xss))::fwS most ss ms xss) (E1.mem 6)\/E1.mem 6∈E1.dfs:=.inr (.inl ⟨6,rfl⟩)
 obtain⟨F,hF⟩:∃F:Nat->Value,a=⟨tab 62 F,a.defers⟩/\F=λi=>a.tmps.getD i undef:=by
  refine⟨λi=>a.tmps.getD i undef,?_,rfl⟩;have:a.tmps=tab 62 (λi=>a.tmps.getD i undef):=by
   apply kce;intro i;rw [zpd?];by_cases hl:i<62
   .rw [if_pos hl,ka2 oc];simp [show i<a.tmps.size by omega]
   .rw [if_neg hl,Array.getElem?_eq_none oc]
  cases a;simp only at this |-
  rw [<-this]
 obtain⟨hF,hFd⟩:=hF
 refine z83 ?_
 show WpJ (jdgF Tryz.prog Post) 15 zwc Qr σ a w
 rw [hF]
 refine yax Post Qr σ F a.defers w (E1.mem 1) (E1.mem 6) ms.length xss hr1.bd hr1.gs (by rw [hFd];exact hF1) (by rw [hFd];exact hF6) hm ⟨hr1.lt hcl1,hr1.avoid _ hcl1⟩ ⟨hr1.lt hcl6,hr1.avoid _ hcl6⟩ ⟨ao,c,?_⟩ ⟨E1.buf 1000,?_,zz4 (λb hb=>⟨hr1.rel.imm b hb,hr1.avoid b (.inl hb)⟩) m1000⟩ hlen hlens ?_
 .simp [World.cell?,g1]
 .simp [World.cell?,g3]
 intro w1 F' Gb2 Fb hend h12
 obtain⟨hsees,⟨G,mk,hnd,hmk,hfa,hG⟩,hgb⟩:=hend
 obtain⟨hGF,v,vals,hvF,hrow,hvl,hvals⟩:=hfa
 obtain⟨m0,hm0,hm0x⟩:=hne
 have hL1:1<=mk.length:=List.length_pos_of_mem ((hmk m0).2 ⟨hm0,hm0x⟩)
 obtain⟨L,hL⟩:∃L,L=mk.map λm=>zby m ms.length:=⟨_,rfl⟩
 have hLl:L.length=mk.length:=by rw [hL];simp
 have hLm:∀xs,xs∈L↔xs∈xss/\∃m,m<2 ^ ms.length/\xs=zby m ms.length:=λxs=>by
  rw [hL,kav];constructor
  .rintro⟨m,h1,rfl⟩;exact⟨((hmk m).1 h1).2,m,((hmk m).1 h1).1,rfl⟩
  .rintro⟨h1,m,h2,rfl⟩;exact⟨m,(hmk m).2 ⟨h2,h1⟩,rfl⟩
 have hLx:∀x∈L,x.length<=100000:=λx hx=>by obtain⟨_,m,_,rfl⟩:=(hLm x).1 hx;have:=zgs m ms.length;omega
 have hL100:L.length<=100000:=by
  have h1:=zvz hnd λx hx=>((hmk x).1 hx).1;have h2:2 ^ ms.length<=2 ^ 9:=kbi oe oc;have h3:2 ^ 9=512:=oe
  omega
 rcases hrow with ⟨rfl,h0⟩|⟨g,cap,cur,rfl,hGg,hcur,hcl,_,hcs,htake,_⟩
 .rw [h0] at hvl;simp at hvl;omega
 have hFg:Fb≠g:=λe=>by subst e;rw [hvF] at hcur;simp at hcur
 have hvlen:vals.length=L.length:=by rw [hLl];exact hvl
 have hGF':=hG Fb hGF
 obtain⟨Gb3,hGb3⟩:∃Gb3:Nat->Prop,Gb3=λx=>Gb2 x\/(w.heap.size<=x/\x<w1.heap.size/\¬(G x/\∀o,w1.heap[x]?=some o->Near o)):=⟨_,rfl⟩
 have hgone:ycl σ w ⟨Gb3,w1.heap.size⟩ w1:=by
  subst hGb3;refine⟨hsees.size,λb hb hg=>hsees.heap b hb ⟨hb,hg⟩,hsees.os,hsees.output,kac _,λx hx=>?_,λb=>⟨λhg=>.inl ((hgb b).2 (.inl hg)),λhl hg=>?_⟩,λb o hb hg ho=>?_⟩
  .rcases hx with hx|hx
   .have h1:Fb≠w.heap.size:=λe=>hGF'.2.2 ((hgb Fb).2 (.inr (.inl e)));rcases(hgb x).1 hx with h|h|h
    .have:=hr1.gs x h;have:=hsees.size;show x<w1.heap.size;omega
    .show x<w1.heap.size;omega
    .show x<w1.heap.size;omega
   .exact hx.2.1
  .rcases hg with hg|hg
   .rcases(hgb b).1 hg with h|h|h
    .exact h
    .omega
    .omega
   .omega
  .have hlt:=zbs ho;exact Classical.byContradiction λhn=>hg (.inr ⟨hb,hlt,λh=>hn (h.2 o ho)⟩)
 have hr2:=hr1.gone hgone (λ_=>True)
 have hr3:=hr2.blank (a':=⟨tab 62 F',a.defers⟩) (by show(tab 62 F').size=_;rw [zvf];exact hsz.symm) rfl
 obtain⟨E3,hE3⟩:∃E3:Env,E3={ E1 with imm:=λb=>E1.imm b\/z96 w w1 ⟨Gb3,w1.heap.size⟩ (λ_=>True) b }:=⟨_,rfl⟩
 rw [<-hE3] at hr3
 have hI:∀b o,G b->w1.heap[b]?=some o->Near o->E3.imm b:=λb o hb ho hn=>by
  obtain⟨p1,p2,p3⟩:=hG b hb;rw [hE3];refine .inr ⟨p1,p2,?_,trivial⟩;rw [hGb3];rintro(h|h)
  .exact p3 h
  .exact h.2.2 ⟨hb,λo' ho'=>by rw [ho] at ho';cases ho';exact hn⟩
 have hglob:zb3 (fwG u Fb g (.slice (some ⟨g,0,none⟩) vals.length cap) L) E3 w1:=by
  intro p hp;simp only [fwG,kat] at hp;rcases hp with rfl|rfl|hp
  .refine⟨hI Fb _ hGF hvF trivial,λx hx=>by simp at hx;subst hx;exact⟨rfl,rfl⟩,λ_=>.slice (some ⟨g,0,none⟩) vals.length cap,λj x hx=>?_⟩;have hj:j=0:=by have:=(kab.1 hx).1;simp at this;omega
   subst hj;cases hx
   exact⟨by simp [World.cell?,hvF],.val _⟩
  .refine⟨hI g _ hGg hcur trivial,λx hx=>by obtain⟨y,_,rfl⟩:=kav.1 hx;exact⟨rfl,rfl⟩,λj=>vals.getD j undef,λj x hx=>?_⟩;rw [kaq] at hx;cases hy:L[j]? with
   | none=>rw [hy] at hx;cases hx
   | some y =>
     rw [hy] at hx;cases hx
     rw [hL,kaq] at hy;cases hmj:mk[j]? with
     | none=>rw [hmj] at hy;cases hy
     | some m =>
       rw [hmj] at hy;cases hy
       obtain⟨uj,hu1,hu2⟩:=hvals j m hmj;have hlt:=(kab.1 hu1).1;have hg':vals.getD j undef=uj:=by simp [hu1]
       dsimp only;rw [hg'];refine⟨?_,z42 hu2 hI⟩;have e:(cur.toList.take vals.length)[j]?=some uj:=by rw [htake];exact hu1
       rw [ka5,if_pos hlt] at e;simp only [World.cell?,hcur];simpa using e
  .exact hr3.rel.glb p hp
 have hr4:=(hr3.glob hglob).know (d:=12) oe (x:=.val (.pointer (some ⟨Fb,0,none⟩))) (by
  show Rep E3 w1 _ ((tab 62 F').getD 12 undef);rw [zci _ _ _ _ oe,h12];exact .val _) rfl
 refine z82 (z3y (Gb':=Gb3) ?_ λx hx=>by rw [hGb3];exact .inl hx)
 refine z9s hFg (by rw [hvlen]) oc (by rw [<-hvlen];exact hcl) hL100 hLx (Q:=λe s=>(e=.normal\/e=.ret)/\zck (cx (fwG u Fb g (.slice (some ⟨g,0,none⟩) vals.length cap) L)) s Tryz.f15.results.toList=some (.tup [.sl 1 (il (zgd L)),vi 0])) (λe s h=>h) Post F0 _ E3 _ w1 15 Qr hr4 λe s' σ' a' w' E' h1 h2 _=>hQr e s' σ' a' w' E' (hQ L oc hLm e s' ⟨h1.1,by rw [z4m (zch u) (fwG u Fb g (.slice (some ⟨g,0,none⟩) vals.length cap) L)];exact h1.2⟩) (h2.glob (z5l h2.rel.glb λp hp=>by simp only [fwG,cx,kat];exact .inr (.inr hp)))
end
end Go.Ab.J
namespace Go.Ab.J
open Go Go.Kp
theorem zwz:∀p q,zie p q=false->zie q p=false->p=q
 | [],[],_,_=>rfl
 | [],_::_,h,_=>by simp [zie] at h
 | _::_,[],_,h=>by simp [zie] at h
 | x::xs,y::ys,h,k=>by
   simp only [zie] at h k;by_cases e:x=y
   .subst e;rw [if_pos rfl] at h k;rw [zwz xs ys h k]
   .rw [if_neg e] at h;rw [if_neg (λe'=>e e'.symm)] at k;simp at h k;omega
theorem zox:∀p q r,zie p q=true->zie q r=true->zie p r=true
 | [],[],_,h,_=>by simp [zie] at h
 | [],_::_,[],_,k=>by simp [zie] at k
 | [],_::_,_::_,_,_=>rfl
 | _::_,[],_,h,_=>by simp [zie] at h
 | _::_,_::_,[],_,k=>by simp [zie] at k
 | x::xs,y::ys,z::zs,h,k=>by
   simp only [zie] at h k |-;by_cases e:x=y
   .subst e;rw [if_pos rfl] at h;by_cases e2:x=z
    .rw [if_pos e2] at k |-;exact zox xs ys zs h k
    .rw [if_neg e2] at k |-;exact k
   .rw [if_neg e] at h;have h':x<y:=oa h
    by_cases e2:y=z
    .subst e2;rw [if_neg e];exact h
    .rw [if_neg e2] at k;have k':y<z:=oa k
     rw [if_neg oc];simp;omega
theorem zky(p q:List Int):zh3 p q=true↔p.length<q.length\/(p.length=q.length/\zie p q=true):=by simp [zh3]
theorem zvo{p q:List Int}(h:zh3 p q=false)(k:zh3 q p=false):p=q:=by
 have h1:=λx=>ka8.1 h ((zky p q).2 x);have k1:=λx=>ka8.1 k ((zky q p).2 x);have e:p.length=q.length:=by
  rcases kdd p.length q.length with h2|h2|h2
  .exact(h1 (.inl h2)).elim
  .exact h2
  .exact(k1 (.inl h2)).elim
 exact zwz p q (ka8.2 λhb=>h1 (.inr ⟨e,hb⟩)) (ka8.2 λhb=>k1 (.inr ⟨e.symm,hb⟩))
theorem zjj{p q r:List Int}(h:zh3 p q=true)(k:zh3 q r=true):zh3 p r=true:=by
 rw [zky] at h k |-;rcases h with h|⟨h,h2⟩
 .rcases k with k|⟨k,_⟩
  .exact .inl oc
  .exact .inl oc
 .rcases k with k|⟨k,k2⟩
  .exact .inl oc
  .exact .inr ⟨oc,zox p q r h2 k2⟩
theorem zw0:∀p,zie p p=false
 | []=>rfl
 | x::xs=>by simp only [zie,if_true];exact zw0 xs
theorem zkx(p:List Int):zh3 p p=false:=ka8.2 λh=>by
 rcases(zky p p).1 h with h|⟨_,h⟩
 .omega
 .rw [zw0] at h;cases h
theorem zoe(x0:List Int)(L:List (List Int)):∀n,n<=L.length->zh3 x0 (zdb x0 L n)=false/\∀j,j<n->zh3 (L.getD j []) (zdb x0 L n)=false
 | 0,_=>⟨zkx _,λj hj=>oc⟩
 | n+1,h=>by
   obtain⟨h1,h2⟩:=zoe x0 L n oc;simp only [zdb];split
   .rename_i hs;refine⟨ka8.2 λhx=>ka8.1 h1 (zjj hx hs),λj hj=>?_⟩;rcases kae j n with hl|hl
    .exact ka8.2 λhx=>ka8.1 (h2 j hl) (zjj hx hs)
    .have:j=n:=oc
     subst this;exact zkx _
   .rename_i hs;refine⟨h1,λj hj=>?_⟩;rcases kae j n with hl|hl
    .exact h2 j hl
    .have:j=n:=oc
     subst this;exact ka8.2 hs
theorem zhf{L:List (List Int)}(h:1<=L.length):zgd L∈L/\∀x∈L,zh3 x (zgd L)=false:=by
 obtain⟨x0,M,rfl⟩:∃x0 M,L=x0::M:=by
  cases L with
  | nil=>simp at h
  | cons x M=>exact⟨x,M,rfl⟩
 simp only [zgd,List.getD_cons_zero,List.drop_one,List.tail_cons];obtain⟨h1,h2⟩:=zoe x0 M M.length (kac _);refine⟨?_,λx hx=>?_⟩
 .rcases zmi x0 M M.length (kac _) with h3|h3
  .rw [h3];simp
  .simp [h3]
 .rcases kat.1 hx with rfl|hx
  .exact h1
  .obtain⟨j,hj⟩:=kba hx;have:=h2 j (kab.1 hj).1;simpa [hj] using this
theorem zx5{L M:List (List Int)}(hL:1<=L.length)(hM:1<=M.length)(h:∀x,x∈L↔x∈M):zgd L=zgd M:=by obtain⟨l1,l2⟩:=zhf hL;obtain⟨m1,m2⟩:=zhf hM;exact zvo (m2 _ ((h _).1 l1)) (l2 _ ((h _).2 m1))
theorem z2p(p:Nat->Bool):∀n,∃m,m<2 ^ n/\∀i,i<n->m.testBit i=p i
 | 0=>⟨0,od,λi hi=>oc⟩
 | n+1=>by
   obtain⟨m,h1,h2⟩:=z2p p n;have h0:m.testBit n=false:=kdu h1;cases hp:p n with
   | false =>
     refine⟨m,by rw [Nat.pow_succ];omega,λi hi=>?_⟩;rcases kae i n with hl|hl
     .exact h2 i hl
     .have:i=n:=oc
      subst this;rw [h0,hp]
   | true =>
     refine⟨2 ^ n+m,by rw [Nat.pow_succ];omega,λi hi=>?_⟩;rcases kae i n with hl|hl
     .rw [Nat.testBit_two_pow_add_gt hl];exact h2 i hl
     .have:i=n:=oc
      subst this;rw [Nat.testBit_two_pow_add_eq,h0,hp];rfl
theorem ztb(ss:List Slip)(ms:List SumR)(am:List Int):∃m,m<2 ^ ms.length/\zan ss ms am=zby m ms.length:=by
 obtain⟨m,h1,h2⟩:=z2p (λj=>zd3 ss am (ms.getD j ⟨0,0,0,0,false⟩)) ms.length;refine⟨m,h1,?_⟩;unfold zan zao zby
 congr 1;refine List.filter_congr λj hj=>?_;exact(h2 j (ka3.1 hj)).symm
end Go.Ab.J
