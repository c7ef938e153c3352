/- What all laws about sales rest on, beside any goroutines. Conditions: none. -/
import Derived.Test.YtfgciihkmemdlaaGreatDoorZw
namespace Go.Ab.J
open Go Go.Proofs Go.Kp
section
variable{G:zbf}{u:Nat->ByteArray}
attribute [local irreducible] AOp AW ADr AFn ze1 AFt AOpJ
set_option maxRecDepth 20000
set_option maxHeartbeats 8000000
theorem zi3{α:Type}{l:List α}{i:Nat}{x:α}(h:l[i]?=some x):l.drop i=x::l.drop (i+1):=by have hl:=(kab.1 h).1;rw [<-List.getElem_cons_drop (h:=hl)];congr 1;exact(kab.1 h).2
theorem eub0{G:Prop}(h:G:=by((repeat' (first|refine sx ?_|(refine aZ ?_;intros)|refine w0 ?_|fail));refine fe ?_;rfl)):G:=h
theorem zg5(p q:List Int)(_hp:p.length<=100000)(hq:q.length<=100000):AFn (cx G) 16 [.sl 1 (il p),.sl 1 (il q)] (vb (decide (p=q))):=by
 refine aby Tryz.func16 Tryz.ntmps16 λQ hQ=>?_;have hlp:(il p).length=p.length:=od
 have hlq:(il q).length=q.length:=od
 by_cases hl:p.length=q.length;case neg =>have hd1:decide (((il p).length:Int)=((il q).length:Int))=false:=decide_eq_false oF;have hF:decide (p=q)=false:=decide_eq_false λh=>hl (by rw [h]);rw [hF] at hQ;exact eub0
 have hd1:decide (((il p).length:Int)=((il q).length:Int))=true:=decide_eq_true oF;(repeat' (first|refine sx ?_|(refine aZ ?_;intros)|refine w0 ?_|fail));refine zbe p.length (λi=>decide (p=q)=decide (p.drop i=q.drop i)) (λi=>[(2*0,.av (.sl 1 (il p))),(2*1,.av (.sl 1 (il q))),(2*5,.av (vi i))]) rfl ?_ ?_
 .exact si
 .intro i hi hP;rcases kae i p.length with hlt|hge
  .obtain⟨x,hx⟩:∃x,p[i]?=some x:=⟨_,kaa hlt⟩;obtain⟨y,hy⟩:∃y,q[i]?=some y:=⟨_,kaa oc⟩;have hxr:(il p)[i]?=some [vi x]:=zcm hx;have hyr:(il q)[i]?=some [vi y]:=zcm hy;have hxl:i<(il p).length:=by rw [hlp];omega
   have hyl:i<(il q).length:=by rw [hlq];omega
   have hd2:decide ((i:Int)<((il p).length:Int))=true:=decide_eq_true (by rw [hlp];omega);have hi1:vi ((i+1:Nat):Int)=vi ((i:Int)+1):=od
   rw [zi3 hx,zi3 hy] at hP;by_cases hxy:x=y
   .have hdx:decide (x=y)=true:=oa hxy
    (repeat' (first|refine sx ?_|(refine aZ ?_;intros)|refine w0 ?_|fail));refine⟨hlt,by rw [hP];simp [hxy],?_⟩;exact si
   .have hdx:decide (x=y)=false:=oa hxy
    have hF:decide (p=q)=false:=by rw [hP];simp [hxy]
    rw [hF] at hQ;exact eub0
  .have he:i=p.length:=oc
   subst he;have hd2:decide ((p.length:Int)<((il p).length:Int))=false:=decide_eq_false (by rw [hlp];omega);have hF:decide (p=q)=true:=by rw [hP,ka7.2 (kac _),ka7.2 oc];rfl
   rw [hF] at hQ;exact eub0
theorem cub0{P G:Prop}(n:P)(h:Wr P->G:=by(intro n;first|((with_reducible apply kC);first|exact gB ⟨_,zg5 _ _ hxl hyl,.mk rfl n.p⟩|exact gK n.p|exact gS n.p)|exact⟨_,zg5 _ _ hxl hyl,n.p⟩|exact sk n.p|exact ap n.p)):G:=h ⟨n⟩
theorem eub1{G:Prop}(h:G:=by((repeat' (first|refine sx ?_|(refine aZ ?_;intros)|refine cub0 ?_|fail));refine fe ?_;rfl)):G:=h
theorem ztm(p q:List (List Int))(_hp:p.length<=100000)(hq:q.length<=100000)(hpx:∀x∈p,x.length<=100000)(hqx:∀x∈q,x.length<=100000):AFn (cx G) 46 [.sl 1 (ll p),.sl 1 (ll q)] (vb (decide (p=q))):=by
 refine aby Tryz.func46 Tryz.ntmps46 λQ hQ=>?_;have hlp:(ll p).length=p.length:=od
 have hlq:(ll q).length=q.length:=od
 by_cases hl:p.length=q.length;case neg =>have hd1:decide (((ll p).length:Int)=((ll q).length:Int))=false:=decide_eq_false oF;have hF:decide (p=q)=false:=decide_eq_false λh=>hl (by rw [h]);rw [hF] at hQ;exact eub1
 have hd1:decide (((ll p).length:Int)=((ll q).length:Int))=true:=decide_eq_true oF;(repeat' (first|refine sx ?_|(refine aZ ?_;intros)|refine cub0 ?_|fail));refine zbe p.length (λi=>decide (p=q)=decide (p.drop i=q.drop i)) (λi=>[(2*0,.av (.sl 1 (ll p))),(2*1,.av (.sl 1 (ll q))),(2*5,.av (vi i))]) rfl ?_ ?_
 .exact si
 .intro i hi hP;rcases kae i p.length with hlt|hge
  .obtain⟨x,hx⟩:∃x,p[i]?=some x:=⟨_,kaa hlt⟩;obtain⟨y,hy⟩:∃y,q[i]?=some y:=⟨_,kaa oc⟩;have hxr:=zr1 hx;have hyr:=zr1 hy;have hxl:=hpx x (kag hx);have hyl:=hqx y (kag hy);have hxi:i<(ll p).length:=by rw [hlp];omega
   have hyi:i<(ll q).length:=by rw [hlq];omega
   have hd2:decide ((i:Int)<((ll p).length:Int))=true:=decide_eq_true (by rw [hlp];omega);have hi1:vi ((i+1:Nat):Int)=vi ((i:Int)+1):=od
   rw [zi3 hx,zi3 hy] at hP;by_cases hxy:x=y
   .have hdx:decide (x=y)=true:=oa hxy
    (repeat' (first|refine sx ?_|(refine aZ ?_;intros)|refine cub0 ?_|fail));refine⟨hlt,by rw [hP];simp [hxy],?_⟩;exact si
   .have hdx:decide (x=y)=false:=oa hxy
    have hF:decide (p=q)=false:=by rw [hP];simp [hxy]
    rw [hF] at hQ;exact eub1
  .have he:i=p.length:=oc
   subst he;have hd2:decide ((p.length:Int)<((ll p).length:Int))=false:=decide_eq_false (by rw [hlp];omega);have hF:decide (p=q)=true:=by rw [hP,ka7.2 (kac _),ka7.2 oc];rfl
   rw [hF] at hQ;exact eub1
def zr3(most:Int)(ss:List Slip)(ms:List SumR):Int×Int:=if zak most ss ms≠0 then (0,zak most ss ms) else (((zah most ss ms).length:Int),0)
theorem cub1{P G:Prop}(n:P)(h:Wr P->G:=by(intro n;first|((with_reducible apply kC);first|exact gB ⟨_,zbh _ _ _ hn hm,.mk rfl n.p⟩|exact gB ⟨_,zf2 _ _ _,.mk rfl n.p⟩|exact gK n.p|exact gS n.p)|exact⟨_,zbh _ _ _ hn hm,n.p⟩|exact⟨_,zf2 _ _ _,n.p⟩|exact sk n.p|exact ap n.p)):G:=h ⟨n⟩
theorem eub2{G:Prop}(h:G:=by((repeat' (first|refine sx ?_|(refine aZ ?_;intros)|refine cub1 ?_|fail));refine fe ?_;rfl)):G:=h
theorem zkg(most:Int)(ss:List Slip)(ms:List SumR)(hn:ss.length<=20)(hm:ms.length<=20):AFn (cx (zch u)) 21 [bk most ss ms] (.tup [vi (zr3 most ss ms).1,vi (zr3 most ss ms).2]):=by
 refine aby Tryz.func21 Tryz.ntmps21 λQ hQ=>?_;by_cases hc:zak most ss ms=0;case neg =>
  have hd1:decide (zak most ss ms=0)=false:=oa hc
  have hF:zr3 most ss ms=(0,zak most ss ms):=by simp [zr3,hc]
  rw [hF] at hQ;exact eub2
 have hg:=(za2 most ss ms).1 hc;have hd1:decide (zak most ss ms=0)=true:=oa hc
 have hF:zr3 most ss ms=(((zah most ss ms).length:Int),0):=by simp [zr3,hc]
 rw [hF] at hQ;have hl6:=zfd hg;(repeat' (first|refine sx ?_|(refine aZ ?_;intros)|refine cub1 ?_|fail));refine zqj (encV:=encH ss) (λp:zd6=>[psA p,amA (zc0 ss p)]) [(2*13,.av (.fn (.func 149) [] [zqu most ss ms])),(2*5,.av (.ptr 5 0))]
  (λpre=>[(2*5+1,.cells 3 [vi (pre.length:Int)])])
  ?_ rfl rfl rfl (z73 hg) (λ_=>rfl) (λp E w=>((yf1.nil E w).cons (z2y _)).cons (zpm p)) (λ_=>rfl) oe (λpre t=>?_) (λt ht=>?_) (λl' pre x rest hxs=>?_) ?_
 .exact si
 .refine Classical.byContradiction λh=>?_;have:=zc1.1 h;simp at this;omega
 .have:=zc1.1 ht;simp at this;have:t=13\/t=5:=oc
  rcases this with rfl|rfl<;>exact⟨rfl,rfl,oe⟩
 .have hlen:pre.length<=46656:=by have:=zfd hg;rw [hxs] at this;simp at this;omega
  have e1:vi ((pre++[x]).length:Int)=vi ((pre.length:Int)+1):=od
  refine awN λP hP=>?_;(repeat' (first|refine sx ?_|refine cub1 ?_|fail));intro l2;refine awN λP hP=>?_;(repeat' (first|refine sx ?_|(refine aZ ?_;intros)|refine cub1 ?_|fail));rw [e1];exact si
 .exact eub2
end
section
variable{G:zbf}{u:Nat->ByteArray}
def exS:List Slip:=[⟨0,1,0,-1,20,22,0⟩,⟨1,1,1,-1,10,10,0⟩,⟨3,1,0,0,5,6,0⟩,⟨5,0,0,0,30,30,0⟩]
def exM:List SumR:=[⟨0,0,15,16,false⟩,⟨2,1,12,12,false⟩]
attribute [local irreducible] AOp AW ADr AFn ze1 AFt AOpJ
set_option maxRecDepth 20000
set_option maxHeartbeats 8000000
theorem cuc0{P G:Prop}(n:P)(h:Wr P->G:=by(intro n;first|((with_reducible apply kC);first|exact gB ⟨_,to_a _ _,.mk rfl n.p⟩|exact gK n.p|exact gS n.p)|exact⟨_,to_a _ _,n.p⟩|exact sk n.p|exact ap n.p)):G:=h ⟨n⟩
theorem zsk:AFn (cx G) 43 [] (bk 1 exS exM):=by refine aby Tryz.func43 Tryz.ntmps43 λQ hQ=>?_;(repeat' (first|refine sx ?_|(refine aZ ?_;intros)|refine cuc0 ?_|fail));refine fe ?_;rfl
theorem cuc1{P G:Prop}(n:P)(h:Wr P->G:=by(intro n;first|((with_reducible apply kC);first|exact gB ⟨_,zla _ _ _ _ hn,.mk rfl n.p⟩|exact gK n.p|exact gS n.p)|exact⟨_,zla _ _ _ _ hn,n.p⟩|exact sk n.p|exact ap n.p)):G:=h ⟨n⟩
theorem euc0{G:Prop}(h:G:=by((repeat' (first|refine sx ?_|(refine aZ ?_;intros)|refine cuc1 ?_|fail));refine fe ?_;rfl)):G:=h
theorem zpv(most:Int)(ss:List Slip)(ms:List SumR)(n:Int)(hn:ss.length<=20):AFn (cx G) 97 [bk most ss ms,vi n] (vb (decide (0<=n/\n<=(ss.length:Int)-1)&&decide ((ss.getD n.toNat d7).kind=5))):=by
 refine aby Tryz.func97 Tryz.ntmps97 λQ hQ=>?_;by_cases h:0<=n/\n<=(ss.length:Int)-1
 .have hd:decide (0<=n/\n<=(ss.length:Int)-1)=true:=oa h
  obtain⟨k,rfl⟩:∃k:Nat,n=(k:Int):=⟨n.toNat,oc⟩;obtain⟨s,hs⟩:∃s,ss[k]?=some s:=⟨_,kaa oc⟩;have hrow:(ss.map Slip.row)[k]?=some s.row:=by simp [hs]
  have hil:k<(ss.map Slip.row).length:=by simp;omega
  have hg:ss.getD k d7=s:=by simp [hs]
  rw [hd] at hQ;simp only [kb9,hg,Bool.true_and] at hQ;exact euc0
 .have hd:decide (0<=n/\n<=(ss.length:Int)-1)=false:=oa h
  rw [hd] at hQ;simp only [Bool.false_and] at hQ;exact euc0
def zmj(ss:List Slip)(n:Int):Bool:=decide (0<=n/\n<=(ss.length:Int)-1)&&decide ((ss.getD n.toNat d7).kind=5)
theorem zrb{most:Int}{ss:List Slip}{ms:List SumR}(_hg:Good most ss ms)(slip:Nat)(hs6:slip<6)(i:Nat)(hi:i<(zah most ss ms).length) :
  AFn (cx (zch u)) 99 [vi i,.elt 5 (elO most ss ms) 0 0,.elt 1 [[vi slip]] 0 0] (vb (((zah most ss ms).getD i d12).2.getD slip false)):=by
 refine aby Tryz.func99 Tryz.ntmps99 λQ hQ=>?_
 obtain⟨x,hx⟩:∃x,(zah most ss ms)[i]?=some x:=⟨_,kaa hi⟩
 have hgx:(zah most ss ms).getD i d12=x:=by simp [hx]
 have hrow:(psR (zah most ss ms))[i]?=some (psL x):=by simp [hx]
 have hil:i<(psR (zah most ss ms)).length:=oa hi
 have hx6:=zvw x hs6
 rw [hgx] at hQ
 (repeat' (first|refine sx ?_|(refine aZ ?_;intros)|refine w0 ?_|fail))
 refine fe ?_
 rfl
def zzt(most:Int)(ss:List Slip)(ms:List SumR)(slip:Nat)(i:Nat):Bool:=((zah most ss ms).getD i d12).2.getD slip false
def zob(ss:List Slip)(slip:Int):Int:=if zmj ss slip then 0 else 6
def zh4(most:Int)(ss:List Slip)(ms:List SumR)(slip:Int):Int×Int :=
 if zbt most ss ms (zob ss slip)≠0 then (0,zbt most ss ms (zob ss slip)) else (zpe (zcg (zzt most ss ms slip.toNat) (zah most ss ms).length) (zah most ss ms).length,0)
theorem cuc2{P G:Prop}(n:P)(h:Wr P->G:=by(intro n;first|((with_reducible apply kC);first|exact gB ⟨_,zpv _ _ _ _ hn,.mk rfl n.p⟩|exact gB ⟨_,zje _,.mk rfl n.p⟩|exact gB ⟨_,zgt hl,.mk rfl n.p⟩|exact gB ⟨_,zhr hn hm hl,.mk rfl n.p⟩|exact gB ⟨_,zvh hg _ _ _ _ _ _ (λi hi=>zrb hg k hk6 i hi),.mk rfl n.p⟩|exact gK n.p|exact gS n.p)|exact⟨_,zpv _ _ _ _ hn,n.p⟩|exact⟨_,zje _,n.p⟩|exact⟨_,zgt hl,n.p⟩|exact⟨_,zhr hn hm hl,n.p⟩|exact⟨_,zvh hg _ _ _ _ _ _ (λi hi=>zrb hg k hk6 i hi),n.p⟩|exact sk n.p|exact ap n.p)):G:=h ⟨n⟩
theorem euc1{G:Prop}(h:G:=by((repeat' (first|refine sx ?_|(refine aZ ?_;intros)|refine cuc2 ?_|fail));refine fe ?_;rfl)):G:=h
theorem z4j(most:Int)(ss:List Slip)(ms:List SumR)(slip:Int)(hn:ss.length<=20)(hm:ms.length<=20) :
  AFn (cx (zch u)) 31 [bk most ss ms,vi slip] (.tup [vi (zh4 most ss ms slip).1,vi (zh4 most ss ms slip).2]):=by
 refine aby Tryz.func31 Tryz.ntmps31 λQ hQ=>?_
 by_cases hl:zbt most ss ms (zob ss slip)=0
 .obtain⟨hg,ho,_⟩:=zme hl;have hF:zh4 most ss ms slip=(zpe (zcg (zzt most ss ms slip.toNat) (zah most ss ms).length) (zah most ss ms).length,0):=by rw [zh4,if_neg (by simp [hl])]
  have hfx:zmj ss slip=true:=by
   cases h:zmj ss slip with
   | true=>rfl
   | false=>simp [zob,h] at ho
  have h2:0<=slip/\slip<=(ss.length:Int)-1:=by simp [zmj] at hfx;exact hfx.1
  obtain⟨k,rfl⟩:∃k:Nat,slip=(k:Int):=⟨slip.toNat,oc⟩;have hk6:k<6:=by have:=hg.nss;omega
  rw [hF] at hQ;simp only [kb9] at hQ;exact euc1
 .have hF:zh4 most ss ms slip=(0,zbt most ss ms (zob ss slip)):=by rw [zh4,if_pos hl]
  have hdl:decide (zbt most ss ms (zob ss slip)=0)=false:=oa hl
  rw [hF] at hQ;exact euc1
end
section
variable{u:Nat->ByteArray}
def okX(ss:List Slip)(ms:List SumR)(p:zd6):Bool:=zdg ss (zc0 ss p)&&ybf ms (zan ss ms (zc0 ss p))
def zht(ss:List Slip)(ms:List SumR)(ps:List zd6):List (List Int):=(ps.filter (okX ss ms)).map λp=>zan ss ms (zc0 ss p)
def zjw(most:Int)(ss:List Slip)(ms:List SumR):List Int×Int :=
 if zak most ss ms≠0 then ([],zak most ss ms) else if zht ss ms (zgf ss)=[] then ([],9) else (zgd (zht ss ms (zgf ss)),0)
theorem zwl(ss:List Slip)(ms:List SumR)(ps:List zd6):(zht ss ms ps).length<=ps.length:=by unfold zht;rw [ka6];exact kbc _ _
theorem z6y{most:Int}{ss:List Slip}{ms:List SumR}(h:Good most ss ms):(zgf ss).length<=46656:=by
 have h1:=zle ss h.h3 ss.length 0 [0,0,0,0,0,0] [false,false,false,false,false,false];have h2:6 ^ ss.length<=6 ^ 6:=kbi oe h.nss;have:6 ^ 6=46656:=oe
 unfold zgf;omega
theorem z51(ss:List Slip)(ms:List SumR)(ps:List zd6)(x:zd6):zht ss ms (ps++[x])=zht ss ms ps++(if okX ss ms x then [zan ss ms (zc0 ss x)] else []):=by unfold zht;rw [kch,kbt];congr 1;cases h:okX ss ms x<;>simp [h]
attribute [local irreducible] AOp AW ADr AFn ze1 AFt AOpJ
attribute [local irreducible] AWn
set_option maxRecDepth 20000
set_option maxHeartbeats 16000000
theorem zws{P G:Prop}(n:P)(h:Wr P->G:=by(intro n;first|((with_reducible apply kC);first|exact gB ⟨_,zbh _ _ _ hn hm,.mk rfl n.p⟩|exact gB ⟨_,zet _ _ _,.mk rfl n.p⟩|exact gB ⟨_,zx3 _ _ _ _ hg.nss hg.for5,.mk rfl n.p⟩|exact gB ⟨_,zgh most ss ms _ hg.nss hg.nms hg.bok.kind hab,.mk rfl n.p⟩|exact gB ⟨_,zlc most ss ms _ hg.nss hg.bok.for3 hab,.mk rfl n.p⟩|exact gB ⟨_,hcan,.mk rfl n.p⟩|exact gK n.p|exact gS n.p)|exact⟨_,zbh _ _ _ hn hm,n.p⟩|exact⟨_,zet _ _ _,n.p⟩|exact⟨_,zx3 _ _ _ _ hg.nss hg.for5,n.p⟩|exact⟨_,zgh most ss ms _ hg.nss hg.nms hg.bok.kind hab,n.p⟩|exact⟨_,zlc most ss ms _ hg.nss hg.bok.for3 hab,n.p⟩|exact⟨_,hcan,n.p⟩|exact sk n.p|exact ap n.p)):G:=h ⟨n⟩
theorem eua0{G:Prop}(h:G:=by((repeat' (first|refine sx ?_|(refine aZ ?_;intros)|refine zws ?_|fail));refine fe ?_;rfl)):G:=h
theorem eua1{G:Prop}(h:G:=by((repeat' (first|refine sx ?_|(refine aZ ?_;intros)|refine zws ?_|fail));exact si)):G:=h
theorem zwk(most:Int)(ss:List Slip)(ms:List SumR)(hn:ss.length<=20)(hm:ms.length<=20) :
  AFn (cx (zch u)) 15 [bk most ss ms] (if (zjw most ss ms).2≠0 then .tup [.val (.slice none 0 0),vi (zjw most ss ms).2] else .tup [.sl 1 (il (zjw most ss ms).1),vi 0]):=by
 have hids:(if (zjw most ss ms).2≠0 then AV.tup [.val (.slice none 0 0),vi (zjw most ss ms).2] else .tup [.sl 1 (il (zjw most ss ms).1),vi 0]).ids=[]:=by split<;>rfl
 refine afn_n Tryz.func15 rfl Tryz.ntmps15 rfl rfl rfl (λQ hQ=>?_) hids
 by_cases hc:zak most ss ms=0
 case neg =>
  have hd1:decide (zak most ss ms=0)=false:=oa hc
  have hF:zjw most ss ms=([],zak most ss ms):=by simp [zjw,hc]
  rw [hF,if_pos hc] at hQ;refine zg0 λP hP=>?_;(repeat' (first|refine sx ?_|refine zws ?_|fail));refine zg0 λP hP=>?_;exact eua0
 have hg:=(za2 most ss ms).1 hc
 have hd1:decide (zak most ss ms=0)=true:=oa hc
 have hal:=z6y hg
 refine zg0 λP hP=>?_
 (repeat' (first|refine sx ?_|refine zws ?_|fail))
 refine zg0 λP hP=>?_
 (repeat' (first|refine sx ?_|(refine aZ ?_;intros)|refine zws ?_|fail))
 refine zg0 λP hP=>?_
 (repeat' (first|refine sx ?_|refine zws ?_|fail))
 refine zg0 λP hP=>?_
 (repeat' (first|refine sx ?_|refine zws ?_|fail))
 refine zg0 λP hP=>?_
 (repeat' (first|refine sx ?_|(refine aZ ?_;intros)|refine zws ?_|fail))
 refine zbx (zh1 6 0 1000 1 38 rfl rfl rfl) ?_
 refine zqj (encV:=encP) (λp:zd6=>[psA p]) [(2*22,.av (.fn (.func 121) [] [zqu most ss ms])),(2*1,.av (.ptr 1 0)),(2*5,.av (.ptr 5 0)),(2*6,.av (.ptr 6 0))]
  (λpre=>[(2*1+1,.cells 25 [vi most,.sl 7 (ss.map Slip.row),.sl 5 (ms.map SumR.row)]),(2*5+1,.cells 88 [vi most,.sl 7 (ss.map Slip.row),.sl 5 (ms.map SumR.row)]),(2*6+1,.cells 78 [.own 1000]),(2*1000+1,.buf 1 38 (ll (zht ss ms pre)))])
  ?_ rfl rfl rfl (z8k most ss ms hg.nss hg.lo) (λ_=>rfl) (λp E w=>(yf1.nil E w).cons (zpm p)) (λ_=>rfl) oe (λpre t=>?_) (λt ht=>?_) (λl' pre x rest hxs=>?_) ?_
 .exact si
 .refine Classical.byContradiction λh=>?_;have:=zc1.1 h;simp at this;omega
 .have:=zc1.1 ht;simp at this;have:t=22\/t=1\/t=5\/t=6:=oc
  rcases this with rfl|rfl|rfl|rfl<;>exact⟨rfl,rfl,oe⟩
 .have hxm:x∈zgf ss:=by rw [hxs];simp
  obtain⟨hx6,hxa⟩:=zna ss hg.lo x hxm;have hab:zhn (zhq ss x.1 x.2 ss.length):=zh6 ss x.1 x.2 hxa ss.length;have hplen:(zht ss ms pre).length<=46656:=by have:=zwl ss ms pre;rw [hxs] at hal;simp at hal;omega
  have hl1:(ll (zht ss ms pre)).length+1<=1000000000:=by simp;omega
  have happ:=z51 ss ms pre x;have hwl:(zan ss ms (zc0 ss x)).length<=100000:=by have:=zd8 ss ms (zc0 ss x);have:=hg.nms;omega
  have hcan:=z8e (G:=zch u) most ss ms (zan ss ms (zc0 ss x)) hwl (zd9 _ _ _);refine awN λP hP=>?_;(repeat' (first|refine sx ?_|refine zws ?_|fail));intro l2;refine awN λP hP=>?_;cases h1:zdg ss (zc0 ss x) with
  | false =>
    have h1':zdg ss (zhq ss x.1 x.2 ss.length)=false:=h1;have hok:okX ss ms x=false:=by simp [okX,h1]
    rw [hok] at happ;have e1:ll (zht ss ms (pre++[x]))=ll (zht ss ms pre):=by rw [happ];simp
    clear happ;exact eua1
  | true =>
    have h1':zdg ss (zhq ss x.1 x.2 ss.length)=true:=h1;cases h2:ybf ms (zan ss ms (zc0 ss x)) with
    | false =>
      have hok:okX ss ms x=false:=by simp [okX,h2]
      rw [hok] at happ;rw [h2] at hcan;have e1:ll (zht ss ms (pre++[x]))=ll (zht ss ms pre):=by rw [happ];simp
      clear happ;exact eua1
    | true =>
      have hok:okX ss ms x=true:=by simp [okX,h1,h2]
      rw [hok] at happ;rw [h2] at hcan;have e1:ll (zht ss ms (pre++[x]))=ll (zht ss ms pre)++[[.sl 1 (il (zan ss ms (zc0 ss x)))]]:=by rw [happ];simp
      clear happ;(repeat' (first|refine sx ?_|(refine aZ ?_;intros)|refine zws ?_|fail));refine zbg (rn1 1000 41) ?_ rfl rfl;exact sr
 have hlen:(ll (zht ss ms (zgf ss))).length=(zht ss ms (zgf ss)).length:=od
 have hfl:=zwl ss ms (zgf ss)
 (repeat' (first|refine sx ?_|refine zws ?_|fail))
 refine zg0 λP hP=>?_
 by_cases he:zht ss ms (zgf ss)=[]
 .have hd2:decide (((ll (zht ss ms (zgf ss))).length:Int)=0)=true:=decide_eq_true (by rw [hlen,he];rfl);have hF:zjw most ss ms=([],9):=by simp [zjw,hc,he]
  rw [hF,if_pos od] at hQ;exact eua0
 .have hpos:1<=(zht ss ms (zgf ss)).length:=kbn.2 he;have hd2:decide (((ll (zht ss ms (zgf ss))).length:Int)=0)=false:=decide_eq_false (by rw [hlen];omega);have hF:zjw most ss ms=(zgd (zht ss ms (zgf ss)),0):=by simp [zjw,hc,he]
  rw [hF,if_neg od] at hQ;have hmask:∀xs∈zht ss ms (zgf ss),∃m,m<2 ^ ms.length/\xs=zby m ms.length:=λxs hx=>by obtain⟨p,_,rfl⟩:=kav.1 hx;exact ztb ss ms _
  have htl:=yc4 (u:=u) (most:=most) (ss:=ss) (ms:=ms) (xss:=zht ss ms (zgf ss)) (Q:=Q) (by have:=hg.nms;omega) oc (λxs hx=>by
   obtain⟨m,_,rfl⟩:=hmask xs hx;have:=zgs m ms.length;have:=hg.nms;omega) (by
   obtain⟨x0,hx0⟩:=List.exists_mem_of_length_pos hpos;obtain⟨m,h1,h2⟩:=hmask x0 hx0;exact⟨m,h1,h2▸hx0⟩) λL hL1 hLm e s hs=>hQ e s (by
    rw [zx5 hpos hL1 λx=>⟨λhx=>(hLm x).2 ⟨hx,hmask x hx⟩,λhx=>((hLm x).1 hx).1⟩];exact hs)
  (repeat' (first|refine sx ?_|(refine aZ ?_;intros)|refine zws ?_|fail));refine ybh (s':=fwS most ss ms (zht ss ms (zgf ss))) ?_ htl;exact si
end
end Go.Ab.J
