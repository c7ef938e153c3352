/- Pieces of a law about sales. Conditions: none. -/
import Derived.Test.YtfgciihkmemdlaaGreatDoorHPd
import Derived.Test.YtfgciihkmemdlaaGreatDoorHPf
namespace Go.Ab.J
open Go Go.Proofs Go.Kp
section
variable{G:zbf}
attribute [local irreducible] AOp AW ADr AFn ze1 AFt AOpJ
set_option maxRecDepth 20000
set_option maxHeartbeats 8000000
theorem z9u{E:Env}{w:World}{xs:List AV}{v:Value}(h:Rep E w (.agg xs) v):∃vs,v=.agg vs.toArray/\yf1 E w xs vs:=by
 cases h with
 | agg xs vs hl h=>exact⟨vs,rfl,hl,h⟩
theorem z4u{E:Env}{w:World}{xs:List AV}{vs:List Value}(h:yf1 E w xs vs):Rep E w (.agg xs) (.agg vs.toArray):=.agg xs vs h.1 h.2
theorem zw4{l:List Int}(h:zhn l){x:Int}(hx:0<=x/\x<=999):zhn (l++[x]):=λi=>by
 rcases kdd i l.length with h1|h1|h1
 .have:=h i;simpa [kai,kam h1] using this
 .subst h1;simpa using hx
 .have:(l++[x])[i]?=none:=kay oy;simp [this]
def zc7(ss:List Slip)(p:zfo):List Int:=(zdv ss p.1 p.2 ss.length).1
theorem zb6(ss:List Slip)(p:zfo):(zc7 ss p).length=ss.length:=zk3 _ _ _ _
theorem zma(ss:List Slip)(wr:List Int)(sg:List Bool)(h:zhn wr):∀n,zhn (zdv ss wr sg n).1
 | 0=>λi=>by simp [zdv]
 | n+1=>by
   have ih:=zma ss wr sg h n;have h1:=zw4 ih (h n);simp only [zdv];split
   .split
    .exact zm8 (zm8 h1 oe n) (h n) _
    .exact zm8 h1 oe n
   .exact h1
def zdk(most:Int)(ss:List Slip)(ms:List SumR)(p:zfo):Bool:=zxr ss p.1 p.2&&zf9 ss (zc7 ss p)&&decide (((zan ss ms (zc7 ss p)).length:Int)<=most)&&!zse ms (zan ss ms (zc7 ss p))
theorem crj0{P G:Prop}(n:P)(h:Wr P->G:=by(intro n;first|((with_reducible apply kC);first|exact gB ⟨_,zey _ _ _ _ _ hn hok hw hsg,.mk rfl n.p⟩|exact gB ⟨_,ze3 most ss ms (zc7 ss (wr,sg)) hn hm (zb6 _ _) hab hk0,.mk rfl n.p⟩|exact gB ⟨_,zn9 _ _ _ _ _ hn hw hsg,.mk rfl n.p⟩|exact gB ⟨_,zll most ss ms (zc7 ss (wr,sg)) hn (by rw [zb6];exact kac _) hab,.mk rfl n.p⟩|exact gB ⟨_,zwi _ _ _ _ hwl (zd9 _ _ _),.mk rfl n.p⟩|exact gK n.p|exact gS n.p)|exact⟨_,zey _ _ _ _ _ hn hok hw hsg,n.p⟩|exact⟨_,ze3 most ss ms (zc7 ss (wr,sg)) hn hm (zb6 _ _) hab hk0,n.p⟩|exact⟨_,zn9 _ _ _ _ _ hn hw hsg,n.p⟩|exact⟨_,zll most ss ms (zc7 ss (wr,sg)) hn (by rw [zb6];exact kac _) hab,n.p⟩|exact⟨_,zwi _ _ _ _ hwl (zd9 _ _ _),n.p⟩|exact sk n.p|exact ap n.p)):G:=h ⟨n⟩
theorem zw5(most:Int)(ss:List Slip)(ms:List SumR)(wr:List Int)(sg:List Bool)(hn:ss.length<=20)(hm:ms.length<=20)(hok:∀(i:Nat) (s:Slip),ss[i]?=some s->zne ss i s)(hw:wr.length=ss.length)(hsg:sg.length=(zae ss ss.length).length)(hwr:zhn wr)(hk0:∀m∈ms,0<=m.kind) :
  AFn (cx G) 91 [bk most ss ms,.agg [.sl 1 (il wr),.sl 1 (bl sg)]] (vb (zdk most ss ms (wr,sg))):=by
 refine aby Tryz.func91 Tryz.ntmps91 λQ hQ=>?_
 have hab:zhn (zc7 ss (wr,sg)):=zma ss wr sg hwr ss.length
 have hwl:(zan ss ms (zc7 ss (wr,sg))).length<=100000:=by have:=zd8 ss ms (zc7 ss (wr,sg));omega
 have hl:(il (zan ss ms (zc7 ss (wr,sg)))).length=(zan ss ms (zc7 ss (wr,sg))).length:=od
 unfold zdk at hQ
 rw [<-hl] at hQ
 (repeat' (first|refine sx ?_|(refine aZ ?_;intros)|refine crj0 ?_|(refine s2 ?_ ?_<;>intro h7<;>try omega)))
 all_goals refine fe ?_
 all_goals refine congrArg vb ?_
 all_goals grind
def zds(ss:List Slip):List zfo:=zhu ss ss.length 0 [] []
def zaj(most:Int)(ss:List Slip)(ms:List SumR):List zfo:=(zds ss).filter (zdk most ss ms)
theorem zqf(ss:List Slip)(hlo:∀s∈ss,0<=s.lo/\s.hi<=999):∀(m i:Nat) (wr:List Int) (sg:List Bool),i+m=ss.length->wr.length=i->sg.length=(zae ss i).length->zhn wr->∀p∈zhu ss m i wr sg,p.1.length=ss.length/\p.2.length=(zae ss ss.length).length/\zhn p.1
 | 0,i,wr,sg,hi,h1,h2,h3,p,hp=>by
   simp only [zhu,kcg] at hp;have:i=ss.length:=oc
   subst this hp;exact⟨h1,h2,h3⟩
 | m+1,i,wr,sg,hi,h1,h2,h3,p,hp=>by
   simp only [zhu,kcq] at hp;obtain⟨n,hn,hp⟩:=hp;have hil:i<ss.length:=oc
   have hs:=hlo ss[i] (kbf hil);have hg:ss.getD i d7=ss[i]:=by simp [hil]
   have hnr:0<=n/\n<=999:=by simp only [zbr,kav,ka3,hg] at hn;obtain⟨j,hj,rfl⟩:=hn;omega
   have hf:=zbn ss i;split at hp
   .rename_i hk;refine zqf ss hlo m (i+1) _ _ oc (by simp [h1]) ?_ (zw4 h3 hnr) p hp;rw [hf,if_neg hk];simpa using h2
   .rename_i hk;have hk:=Decidable.not_not.1 hk;have hl:∀b,(sg++[b]).length=(zae ss (i+1)).length:=λb=>by rw [hf,if_pos hk];simp [h2]
    rcases kax.1 hp with hp|hp
    .split at hp
     .exact zqf ss hlo m (i+1) _ _ oc (by simp [h1]) (hl _) (zw4 h3 hnr) p hp
     .cases hp
    .split at hp
     .exact zqf ss hlo m (i+1) _ _ oc (by simp [h1]) (hl _) (zw4 h3 hnr) p hp
     .cases hp
theorem zuu{ss:List Slip}(hlo:∀s∈ss,0<=s.lo/\s.hi<=999):∀p∈zds ss,p.1.length=ss.length/\p.2.length=(zae ss ss.length).length/\zhn p.1 :=
 zqf ss hlo ss.length 0 [] [] oc rfl rfl λi=>od
theorem Good.can{most:Int}{ss:List Slip}{ms:List SumR}(h:Good most ss ms):∀s∈ss,(0<=s.lo/\s.hi<=999)/\s.lo<=s.hi/\s.hi-s.lo<3:=λs hs=>by obtain⟨i,hi⟩:=kba hs;have:=(h.slip i s hi).amt;omega
theorem Good.k0{most:Int}{ss:List Slip}{ms:List SumR}(h:Good most ss ms):∀m∈ms,0<=m.kind:=λm hm=>(h.sum m hm).1.1
theorem zqn{most:Int}{ss:List Slip}{ms:List SumR}(h:Good most ss ms):(zds ss).length<=46656:=by
 have h1:=zhi ss h.h3 ss.length 0 [] [];have h2:6 ^ ss.length<=6 ^ 6:=kbi oe h.nss;have:6 ^ 6=46656:=oe
 unfold zds;omega
theorem zjl{most:Int}{ss:List Slip}{ms:List SumR}(h:Good most ss ms):(zaj most ss ms).length<=46656:=kak (kbc _ _) (zqn h)
theorem zd5{most:Int}{ss:List Slip}{ms:List SumR}(h:Good most ss ms){p:zfo}(hp:p∈zaj most ss ms):p.1.length=ss.length/\p.2.length=(zae ss ss.length).length/\zhn p.1:=zuu h.lo p (kbw.1 hp).1
theorem zri{E:Env}{w:World}{vs:List Value}{b:AV}(h:yf1 E w [b,.agg [.val (.slice none 0 0),.val (.slice none 0 0)]] vs):yf1 E w [b,.agg [.sl 1 (il []),.sl 1 (bl [])]] vs:=by
 obtain⟨v,us,rfl,h1,h2⟩:=h.inv;obtain⟨v2,us,rfl,h3,h4⟩:=h2.inv;refine h1 |> λh1=>yf1.cons h1 (yf1.cons ?_ h4)
 obtain⟨ws,rfl,h5⟩:=z9u h3;obtain⟨u1,ws,rfl,h6,h7⟩:=h5.inv;obtain⟨u2,ws,rfl,h8,h9⟩:=h7.inv;rw [h6.val_eq,h8.val_eq];exact z4u ((h9.cons (.nil 1)).cons (.nil 1))
theorem crj1{P G:Prop}(n:P)(h:Wr P->G:=by(intro n;first|((with_reducible apply kC);first|exact gB ⟨_,zw6 (yeh most ss ms hg.nss hg.can ss.length 0 [] [] rfl oc (kac _)) λE w vs h=>zri h,.mk rfl n.p⟩|exact gK n.p|exact gS n.p)|exact⟨_,zw6 (yeh most ss ms hg.nss hg.can ss.length 0 [] [] rfl oc (kac _)) λE w vs h=>zri h,n.p⟩|exact sk n.p|exact ap n.p)):G:=h ⟨n⟩
theorem zqg{most:Int}{ss:List Slip}{ms:List SumR}(hg:Good most ss ms):AFn (cx G) 157 [bk most ss ms] (.sl 2 (rp (zds ss))):=by refine aby Tryz.func157 Tryz.ntmps157 λQ hQ=>?_;(repeat' (first|refine sx ?_|(refine aZ ?_;intros)|refine crj1 ?_|fail));refine fe ?_;rfl
theorem zrg{l:List zfo}{i:Nat}{p:zfo}(h:l[i]?=some p):(rp l)[i]?=some [.sl 1 (il p.1),.sl 1 (bl p.2)]:=by simp [h]
theorem crj2{P G:Prop}(n:P)(h:Wr P->G:=by(intro n;first|((with_reducible apply kC);first|exact gB ⟨_,zqg hg,.mk rfl n.p⟩|exact gB ⟨_,zw5 most ss ms _ _ oc oc hg.slip ho.1 ho.2.1 ho.2.2 hg.k0,.mk rfl n.p⟩|exact gK n.p|exact gS n.p)|exact⟨_,zqg hg,n.p⟩|exact⟨_,zw5 most ss ms _ _ oc oc hg.slip ho.1 ho.2.1 ho.2.2 hg.k0,n.p⟩|exact sk n.p|exact ap n.p)):G:=h ⟨n⟩
theorem zro{most:Int}{ss:List Slip}{ms:List SumR}(hg:Good most ss ms):AFn (cx G) 92 [bk most ss ms] (.sl 2 (rp (zaj most ss ms))):=by
 refine aby Tryz.func92 Tryz.ntmps92 λQ hQ=>?_;have hn6:=hg.nss;have hm5:=hg.nms;have hal:=zqn hg;(repeat' (first|refine sx ?_|(refine aZ ?_;intros)|refine crj2 ?_|fail));refine zbx (zbd 4 1000 2 140 rfl rfl) ?_
 refine zam (zds ss).length (λi=>[(2*1,.av (.ptr 1 0)),(2*1+1,.cells 25 [vi most,.sl 7 (ss.map Slip.row),.sl 5 (ms.map SumR.row)]),(2*3,.av (.sl 2 (rp (zds ss)))),(2*4,.av (.own 1000)),(2*1000+1,.buf 2 140 (rp (((zds ss).take i).filter (zdk most ss ms)))),(2*5,.av (vi i))]) ?_ ?_
 .exact si
 .intro i hi;rcases kae i (zds ss).length with hlt|hge
  .obtain⟨⟨wr,sg⟩,hp⟩:∃p,(zds ss)[i]?=some p:=⟨_,kaa hlt⟩;have hrow:=zrg hp;have hil:i<(rp (zds ss)).length:=oa hlt
   have ho:=zuu hg.lo _ (kag hp);have hd:decide ((i:Int)<((rp (zds ss)).length:Int))=true:=decide_eq_true oy;have hi1:vi ((i+1:Nat):Int)=vi ((i:Int)+1):=od
   have hfl:=kbc (zdk most ss ms) ((zds ss).take i);have htl:((zds ss).take i).length<=46656:=by simp;omega
   have h1000:(rp (((zds ss).take i).filter (zdk most ss ms))).length+[[AV.sl 1 (il wr),AV.sl 1 (bl sg)]].length<=1000000000:=by simp only [rp,ka6,kbo,kbv];omega
   rcases ka1 (zdk most ss ms (wr,sg)) with ha|ha
   .have hsucc:rp (((zds ss).take (i+1)).filter (zdk most ss ms))=rp (((zds ss).take i).filter (zdk most ss ms))++[[AV.sl 1 (il wr),AV.sl 1 (bl sg)]]:=by
      rw [kb8,hp];simp [ha]
    (repeat' (first|refine sx ?_|(refine aZ ?_;intros)|refine crj2 ?_|fail));refine⟨hlt,?_⟩;refine zbg (rn1 1000 26) ?_ rfl rfl;exact sr
   .have hsucc:rp (((zds ss).take (i+1)).filter (zdk most ss ms))=rp (((zds ss).take i).filter (zdk most ss ms)):=by
      rw [kb8,hp];simp [ha]
    (repeat' (first|refine sx ?_|(refine aZ ?_;intros)|refine crj2 ?_|fail));refine⟨hlt,?_⟩;exact si
  .have he:i=(zds ss).length:=oc
   subst he;have hd:decide (((zds ss).length:Int)<((rp (zds ss)).length:Int))=false:=decide_eq_false od;(repeat' (first|refine sx ?_|(refine aZ ?_;intros)|refine crj2 ?_|fail));refine fe ?_;rw [kdl];rfl
def zcl(most:Int)(ss:List Slip)(ms:List SumR)(own:Int):Int:=if zak most ss ms≠0 then zak most ss ms else if own≠0 then own else if zaj most ss ms=[] then 9 else 0
theorem zk7{most:Int}{ss:List Slip}{ms:List SumR}{own:Int}(h:zcl most ss ms own=0):Good most ss ms/\own=0/\zaj most ss ms≠[]:=by
 unfold zcl at h;by_cases hc:zak most ss ms=0
 .by_cases ho:own=0
  .by_cases hh:zaj most ss ms=[]
   .simp [hc,ho,hh] at h
   .exact⟨(za2 most ss ms).1 hc,ho,hh⟩
  .simp [hc,ho] at h
 .simp [hc] at h
theorem crj3{P G:Prop}(n:P)(h:Wr P->G:=by(intro n;first|((with_reducible apply kC);first|exact gB ⟨_,zg8 _ _ _ hn hm,.mk rfl n.p⟩|exact gB ⟨_,zro hg,.mk rfl n.p⟩|exact gK n.p|exact gS n.p)|exact⟨_,zg8 _ _ _ hn hm,n.p⟩|exact⟨_,zro hg,n.p⟩|exact sk n.p|exact ap n.p)):G:=h ⟨n⟩
theorem erj0{G:Prop}(h:G:=by((repeat' (first|refine sx ?_|(refine aZ ?_;intros)|refine crj3 ?_|fail));refine fe ?_;rfl)):G:=h
theorem zha{most:Int}{ss:List Slip}{ms:List SumR}{own:Int}(hn:ss.length<=20)(hm:ms.length<=20)(h:zcl most ss ms own=0):AFn (cx G) 93 [bk most ss ms,vi own] (.tup [.sl 2 (rp (zaj most ss ms)),vi 0]):=by
 obtain⟨hg,ho,hh⟩:=zk7 h;subst ho;refine aby Tryz.func93 Tryz.ntmps93 λQ hQ=>?_;have hd1:decide (zak most ss ms=0)=true:=by simpa using (za2 most ss ms).2 hg
 have hd2:decide (((rp (zaj most ss ms)).length:Int)=0)=false:=decide_eq_false (by have:=kbn.2 hh;simp;omega);exact erj0
theorem zhb{most:Int}{ss:List Slip}{ms:List SumR}{own:Int}(hn:ss.length<=20)(hm:ms.length<=20)(h:zcl most ss ms own≠0):AFn (cx G) 93 [bk most ss ms,vi own] (.tup [.val (.slice none 0 0),vi (zcl most ss ms own)]):=by
 refine aby Tryz.func93 Tryz.ntmps93 λQ hQ=>?_;by_cases hc:zak most ss ms=0
 .have hd1:decide (zak most ss ms=0)=true:=oa hc
  by_cases ho:own=0
  .subst ho;have hg:=(za2 most ss ms).1 hc;have hh:zaj most ss ms=[]:=Classical.byContradiction λhh=>h (by simp [zcl,hc,hh]);have hd2:decide (((rp (zaj most ss ms)).length:Int)=0)=true:=decide_eq_true (by rw [hh];rfl);have hL:zcl most ss ms 0=9:=by simp [zcl,hc,hh]
   rw [hL] at hQ;exact erj0
  .have hd2:decide (own=0)=false:=oa ho
   have hL:zcl most ss ms own=own:=by simp [zcl,hc,ho]
   rw [hL] at hQ;exact erj0
 .have hd1:decide (zak most ss ms=0)=false:=oa hc
  have hL:zcl most ss ms own=zak most ss ms:=by simp [zcl,hc]
  rw [hL] at hQ;exact erj0
end
section
variable{G:zbf}
attribute [local irreducible] AOp AW ADr AFn ze1 AFt AOpJ
set_option maxRecDepth 20000
set_option maxHeartbeats 8000000
theorem crk0{P G:Prop}(n:P)(h:Wr P->G:=by(intro n;first|((with_reducible apply kC);first|exact gB ⟨_,zv8 _ _ _,.mk rfl n.p⟩|exact gK n.p|exact gS n.p)|exact⟨_,zv8 _ _ _,n.p⟩|exact sk n.p|exact ap n.p)):G:=h ⟨n⟩
theorem zvc(i many:Int)(hm:0<=many/\many<=100000):AFn (cx G) 94 [vi i,vi many] (vi (if decide (0<=i/\i<=many-1) then 0 else 6)):=by
 refine aby Tryz.func94 Tryz.ntmps94 λQ hQ=>?_;by_cases h:0<=i/\i<=many-1
 .have hd:decide (0<=i/\i<=many-1)=true:=oa h
  (repeat' (first|refine sx ?_|(refine aZ ?_;intros)|refine crk0 ?_|fail));refine fe ?_;simp [h]
 .have hd:decide (0<=i/\i<=many-1)=false:=oa h
  (repeat' (first|refine sx ?_|(refine aZ ?_;intros)|refine crk0 ?_|fail));refine fe ?_;rw [if_neg (by rw [hd];simp)]
def zy9(some many:Int):Int:=if some=many then 1 else if some=0 then 2 else 0
theorem z7j(n m:Int):AFn (cx G) 102 [vi n,vi m] (vi (zy9 n m)):=by
 refine aby Tryz.func102 Tryz.ntmps102 λQ hQ=>?_;(repeat' (first|refine sx ?_|(refine aZ ?_;intros)|refine crk0 ?_|(refine s2 ?_ ?_<;>intro h7<;>try omega)));all_goals refine fe ?_
 all_goals refine congrArg vi ?_
 all_goals unfold zy9
 all_goals grind
abbrev rd0:zfo:=([],[])
end
section
variable{G:zbf}
attribute [local irreducible] AOp AW ADr AFn ze1 AFt AOpJ
set_option maxRecDepth 20000
set_option maxHeartbeats 8000000
def zql(ss:List Slip)(ps:List zfo)(slip:Nat):List Int:=ps.map λp=>(zc7 ss p).getD slip 0
theorem crm0{P G:Prop}(n:P)(h:Wr P->G:=by(intro n;first|((with_reducible apply kC);first|exact gB ⟨_,zey _ _ _ _ _ hn hok ho.1 ho.2,.mk rfl n.p⟩|exact gK n.p|exact gS n.p)|exact⟨_,zey _ _ _ _ _ hn hok ho.1 ho.2,n.p⟩|exact sk n.p|exact ap n.p)):G:=h ⟨n⟩
theorem zo2(most:Int)(ss:List Slip)(ms:List SumR)(ps:List zfo)(slip:Nat)(hn:ss.length<=20)(hs:slip<ss.length)(hps:ps.length<=100000)(hok:∀(i:Nat) (s:Slip),ss[i]?=some s->zne ss i s)(hp:∀p∈ps,p.1.length=ss.length/\p.2.length=(zae ss ss.length).length) :
  AFn (cx G) 96 [bk most ss ms,.sl 2 (rp ps),vi slip] (.sl 1 (il (zql ss ps slip))):=by
 refine aby Tryz.func96 Tryz.ntmps96 λQ hQ=>?_
 have hr:(rp ps).length=ps.length:=od
 (repeat' (first|refine sx ?_|(refine aZ ?_;intros)|refine crm0 ?_|fail))
 refine zbx (zbd 7 1000 1 3 rfl rfl) ?_
 refine zam ps.length (λi=>[(2*3,.av (.ptr 3 0)),(2*3+1,.cells 25 [vi most,.sl 7 (ss.map Slip.row),.sl 5 (ms.map SumR.row)]),(2*1,.av (.sl 2 (rp ps))),(2*2,.av (vi slip)),(2*7,.av (.own 1000)),(2*1000+1,.buf 1 3 (il (zql ss (ps.take i) slip))),(2*8,.av (vi i))]) ?_ ?_
 .exact si
 .intro i hi;rcases kae i ps.length with hlt|hge
  .obtain⟨⟨wr,sg⟩,hx⟩:∃p,ps[i]?=some p:=⟨_,kaa hlt⟩;have hrow:=zrg hx;have hil:i<(rp ps).length:=by rw [hr];exact hlt
   have ho:=hp _ (kag hx);have hd:decide ((i:Int)<((rp ps).length:Int))=true:=decide_eq_true oS;have hi1:vi ((i+1:Nat):Int)=vi ((i:Int)+1):=od
   have hnl:=zb6 ss (wr,sg);obtain⟨z,hz⟩:∃z,(zc7 ss (wr,sg))[slip]?=some z:=⟨_,kaa oc⟩;have hzr:(il (zdv ss wr sg ss.length).1)[slip]?=some [vi z]:=zcm hz;have hzl:slip<(il (zdv ss wr sg ss.length).1).length:=by rw [ka6];show slip<(zc7 ss (wr,sg)).length;omega
   have hgz:(zc7 ss (wr,sg)).getD slip 0=z:=by simp [hz]
   have h1000:(il (zql ss (ps.take i) slip)).length+[[vi z]].length<=1000000000:=by simp [zql];omega
   have hsucc:il (zql ss (ps.take (i+1)) slip)=il (zql ss (ps.take i) slip)++[[vi z]]:=by rw [kb8,hx];simp only [zql,Option.toList,il,kbt,kbq,kej,hgz]
   (repeat' (first|refine sx ?_|(refine aZ ?_;intros)|refine crm0 ?_|fail));refine⟨hlt,?_⟩;refine zbg (rn1 1000 26) ?_ rfl rfl;exact sr
  .have he:i=ps.length:=oc
   subst he;have hd:decide ((ps.length:Int)<((rp ps).length:Int))=false:=decide_eq_false oS;(repeat' (first|refine sx ?_|(refine aZ ?_;intros)|refine crm0 ?_|fail));refine fe ?_;rw [kdl]
end
end Go.Ab.J
