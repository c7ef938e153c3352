/- For every book, all numbers and truths that were written, and every slip SalesSlips answers true, whatever other goroutines do, and leaves its arguments as they were. Conditions: those of the given row, none else. -/
import Derived.Test.YtfgciihkmemdlaaGreatDoorHPk
import Derived.Test.YtfgciihkmemdlaaGreatDoorHPl
namespace Go.Ab.J
open Go Go.Proofs Go.Kp
section
variable{G:zbf}{u:Nat->ByteArray}
theorem yuq{ws:List Int}(_hl:ws.length<=20)(h:ws.any z0e=false):zhn ws:=λi=>by
 rcases kae i ws.length with hi|hi
 .have e:ws[i]?=some (ws.getD i 0):=by simp [hi]
  have:=List.any_eq_false.1 h _ (kag e);simpa [z0e] using this
 .simp [hi]
attribute [local irreducible] AOp AW ADr AFn ze1 AFt AOpJ
set_option maxRecDepth 20000
set_option maxHeartbeats 8000000
theorem cii0{P G:Prop}(n:P)(h:Wr P->G:=by(intro n;first|((with_reducible apply kC);first|exact gB ⟨_,zv8 _ _ _,.mk rfl n.p⟩|exact gB ⟨_,zsd _ _ _ hn,.mk rfl n.p⟩|exact gK n.p|exact gS n.p)|exact⟨_,zv8 _ _ _,n.p⟩|exact⟨_,zsd _ _ _ hn,n.p⟩|exact sk n.p|exact ap n.p)):G:=h ⟨n⟩
theorem eii0{G:Prop}(h:G:=by((repeat' (first  |refine sy ?_|(refine aZ ?_;intros)|refine cii0 ?_|(refine s2 ?_ ?_<;>intro h7<;>try omega)));refine fe ?_;rfl)):G:=h
theorem yuk(most:Int)(ss:List Slip)(ms:List SumR)(ws:List Int)(sg:List Bool)(hn:ss.length<=20)(_hw:ws.length<=20)(_hs:sg.length<=20):AFn (cx G) 84 [bk most ss ms,.agg [.sl 1 (il ws),.sl 1 (bl sg)]] (vi (yt1 ss ws sg)):=by
 refine aby Tryz.func84 Tryz.ntmps84 λQ hQ=>?_;by_cases hl:ws.length=ss.length;case neg =>
  have hdP:decide (((il ws).length:Int)=((ss.map Slip.row).length:Int))=false:=decide_eq_false oy;have hd:(!decide (((il ws).length:Int)=((ss.map Slip.row).length:Int)))=true:=by rw [hdP];rfl
  have hC:yt1 ss ws sg=2:=if_pos hl;rw [hC] at hQ;exact eii0
 have hdP:decide (((il ws).length:Int)=((ss.map Slip.row).length:Int))=true:=decide_eq_true oy;have hd:(!decide (((il ws).length:Int)=((ss.map Slip.row).length:Int)))=false:=by rw [hdP];rfl
 (repeat' (first  |refine sy ?_|(refine aZ ?_;intros)|refine cii0 ?_|(refine s2 ?_ ?_<;>intro h7<;>try omega)));refine zbe ws.length (λi=>∀j,j<i->z0e (ws.getD j 0)=false) (λi=>[(2*2,.av (.ptr 2 0)),(2*2+1,.cells 25 [vi most,.sl 7 (ss.map Slip.row),.sl 5 (ms.map SumR.row)]),(2*3,.av (.ptr 3 0)),(2*3+1,.cells 140 [.sl 1 (il ws),.sl 1 (bl sg)]),(2*5,.av (vi i))]) (λj hj=>oc) ?_ ?_
 .exact si
 .intro i hi hP;rcases kae i ws.length with hlt|hge
  .obtain⟨x,hx⟩:∃x,ws[i]?=some x:=⟨_,kaa hlt⟩;have hxr:(il ws)[i]?=some [vi x]:=zcm hx;have hxl:i<(il ws).length:=oa hlt
   have hgx:ws.getD i 0=x:=by simp [hx]
   have hd2:decide ((i:Int)<((il ws).length:Int))=true:=decide_eq_true oc;have hi1:vi ((i+1:Nat):Int)=vi ((i:Int)+1):=od
   by_cases hin:0<=x/\x<=999
   .have hdiP:decide (0<=x/\x<=999)=true:=decide_eq_true hin;have hdi:(!decide (0<=x/\x<=999))=false:=by rw [hdiP];rfl
    (repeat' (first  |refine sy ?_|(refine aZ ?_;intros)|refine cii0 ?_|(refine s2 ?_ ?_<;>intro h7<;>try omega)));refine⟨hlt,λj hj=>?_,?_⟩
    .rcases kae j i with h|h
     .exact hP j h
     .have:j=i:=oc
      subst this;rw [hgx,z0e,decide_eq_true hin];rfl
    .rw [hi1];exact si
   .have hdiP:decide (0<=x/\x<=999)=false:=decide_eq_false hin;have hdi:(!decide (0<=x/\x<=999))=true:=by rw [hdiP];rfl
    have hC:yt1 ss ws sg=1:=by rw [yt1,if_neg (by simp [hl]),if_pos (kaz.2 ⟨x,kag hx,by rw [z0e,decide_eq_false hin];rfl⟩)]
    rw [hC] at hQ;exact eii0
  .obtain rfl:i=ws.length:=oc
   have hd2:decide ((ws.length:Int)<((il ws).length:Int))=false:=od
   have hany:ws.any z0e=false:=List.any_eq_false.2 λx hx=>by obtain⟨j,hj⟩:=kba hx;have hjl:=(kab.1 hj).1;have:=hP j hjl;rw [show ws.getD j 0=x by simp [hj]] at this;simp [this]
   by_cases hf:sg.length=(zae ss ss.length).length
   .have hdfP:decide (((bl sg).length:Int)=((il (zae ss ss.length)).length:Int))=true:=decide_eq_true oy;have hdf:(!decide (((bl sg).length:Int)=((il (zae ss ss.length)).length:Int)))=false:=by rw [hdfP];rfl
    have hC:yt1 ss ws sg=0:=by rw [yt1,if_neg (by simp [hl]),if_neg (by simp [hany]),if_neg (by simp [hf])]
    rw [hC] at hQ;exact eii0
   .have hdfP:decide (((bl sg).length:Int)=((il (zae ss ss.length)).length:Int))=false:=decide_eq_false oy;have hdf:(!decide (((bl sg).length:Int)=((il (zae ss ss.length)).length:Int)))=true:=by rw [hdfP];rfl
    have hC:yt1 ss ws sg=2:=by rw [yt1,if_neg (by simp [hl]),if_neg (by simp [hany]),if_pos hf]
    rw [hC] at hQ;exact eii0
def yui(most:Int)(ss:List Slip)(ms:List SumR)(ws:List Int)(sg:List Bool):List Int:=if yt0 most ss ms ws sg≠0 then [] else zc7 ss (ws,sg)
def yuh(most:Int)(ss:List Slip)(ms:List SumR)(ws:List Int)(sg:List Bool):List Int:=if yt0 most ss ms ws sg≠0 then [] else zan ss ms (zc7 ss (ws,sg))
theorem cii1{P G:Prop}(n:P)(h:Wr P->G:=by(intro n;first|((with_reducible apply kC);first|exact gB ⟨_,zg8 _ _ _ hn hm,.mk rfl n.p⟩|exact gB ⟨_,yuk _ _ _ _ _ hn hw hs,.mk rfl n.p⟩|exact gB ⟨_,hno,.mk rfl n.p⟩|exact gB ⟨_,hwo,.mk rfl n.p⟩|exact gK n.p|exact gS n.p)|exact⟨_,zg8 _ _ _ hn hm,n.p⟩|exact⟨_,yuk _ _ _ _ _ hn hw hs,n.p⟩|exact⟨_,hno,n.p⟩|exact⟨_,hwo,n.p⟩|exact sk n.p|exact ap n.p)):G:=h ⟨n⟩
theorem eii1{G:Prop}(h:G:=by((repeat' (first  |refine sy ?_|(refine aZ ?_;intros)|refine cii1 ?_|(refine s2 ?_ ?_<;>intro h7<;>try omega)));exact hQ.go _ _ _ ((zze 6 1 rfl).trans (zze 7 1 rfl)) (.inr rfl) rfl)):G:=h
theorem yue(most:Int)(ss:List Slip)(ms:List SumR)(ws:List Int)(sg:List Bool)(hn:ss.length<=20)(hm:ms.length<=20)(hw:ws.length<=20)(hs:sg.length<=20):AFn (cx G) 25 [bk most ss ms,.sl 1 (il ws),.sl 1 (bl sg)] (.tup [.sl 1 (il (yui most ss ms ws sg)),.sl 1 (il (yuh most ss ms ws sg)),vi (yt0 most ss ms ws sg)]):=by
 refine zg1 Tryz.func25 rfl Tryz.ntmps25 rfl rfl rfl (λQ hQ=>?_) rfl;by_cases hc:zak most ss ms=0;case neg =>
  have hdcP:decide (zak most ss ms=0)=false:=decide_eq_false hc;have hdc:(!decide (zak most ss ms=0))=true:=by rw [hdcP];rfl
  have hL:yt0 most ss ms ws sg=zak most ss ms:=if_pos hc;rw [yui,yuh,hL,if_pos hc,if_pos hc] at hQ;exact eii1
 have hdcP:decide (zak most ss ms=0)=true:=decide_eq_true hc;have hdc:(!decide (zak most ss ms=0))=false:=by rw [hdcP];rfl
 have hL:yt0 most ss ms ws sg=yt1 ss ws sg:=if_neg (by simp [hc]);by_cases hk:yt1 ss ws sg=0;case neg =>
  have hdkP:decide (yt1 ss ws sg=0)=false:=decide_eq_false hk;have hdk:(!decide (yt1 ss ws sg=0))=true:=by rw [hdkP];rfl
  rw [yui,yuh,hL,if_pos hk,if_pos hk] at hQ;exact eii1
 have hdkP:decide (yt1 ss ws sg=0)=true:=decide_eq_true hk;have hdk:(!decide (yt1 ss ws sg=0))=false:=by rw [hdkP];rfl
 have hP:=yt3 (hL.trans hk);have hab:=yuq hw hP.wb;have hno:=zey (G:=G) most ss ms ws sg hn hP.good.slip hP.wl hP.sl;have hwo:=ze3 (G:=G) most ss ms (zc7 ss (ws,sg)) hn hm (zb6 _ _) (zma _ _ _ hab _) hP.good.k0;rw [yui,yuh,hL,if_neg (by simp [hk]),if_neg (by simp [hk]),hk] at hQ;change AFn _ _ _ (.sl 1 (il (zc7 ss (ws,sg)))) at hno;generalize zc7 ss (ws,sg)=now at *
 (repeat' (first  |refine sy ?_|(refine aZ ?_;intros)|refine cii1 ?_|(refine s2 ?_ ?_<;>intro h7<;>try omega)));exact hQ.go _ _ _ zcz (.inr rfl) rfl
theorem cii2{P G:Prop}(n:P)(h:Wr P->G:=by(intro n;first|((with_reducible apply kC);first|exact gB ⟨_,yue _ _ _ _ _ hn hm hw hs,.mk rfl n.p⟩|exact gB ⟨_,hag,.mk rfl n.p⟩|exact gK n.p|exact gS n.p)|exact⟨_,yue _ _ _ _ _ hn hm hw hs,n.p⟩|exact⟨_,hag,n.p⟩|exact sk n.p|exact ap n.p)):G:=h ⟨n⟩
theorem eii2{G:Prop}(h:G:=by((repeat' (first  |refine sy ?_|(refine aZ ?_;intros)|refine cii2 ?_|(refine s2 ?_ ?_<;>intro h7<;>try omega)));exact hQ.go _ _ _ zcz (.inr rfl) rfl)):G:=h
theorem yu9(most:Int)(ss:List Slip)(ms:List SumR)(ws:List Int)(sg:List Bool)(hn:ss.length<=20)(hm:ms.length<=20)(hw:ws.length<=20)(hs:sg.length<=20):AFn (cx G) 28 [bk most ss ms,.sl 1 (il ws),.sl 1 (bl sg)] (.tup [vb (if yt0 most ss ms ws sg≠0 then false else zdk most ss ms (ws,sg)),vi (yt0 most ss ms ws sg)]):=by
 refine zg1 Tryz.func28 rfl Tryz.ntmps28 rfl rfl rfl (λQ hQ=>?_) rfl;by_cases hk:yt0 most ss ms ws sg=0
 .have hdkP:decide (yt0 most ss ms ws sg=0)=true:=decide_eq_true hk;have hdk:(!decide (yt0 most ss ms ws sg=0))=false:=by rw [hdkP];rfl
  have hP:=yt3 hk;have hag:=zw5 (G:=G) most ss ms ws sg hn hm hP.good.slip hP.wl hP.sl (yuq hw hP.wb) hP.good.k0;rw [if_neg (by simp [hk])] at hQ;rw [hk] at hQ;exact eii2
 .have hdkP:decide (yt0 most ss ms ws sg=0)=false:=decide_eq_false hk;have hdk:(!decide (yt0 most ss ms ws sg=0))=true:=by rw [hdkP];rfl
  rw [if_pos hk] at hQ;exact eii2
theorem cii3{P G:Prop}(n:P)(h:Wr P->G:=by(intro n;first|((with_reducible apply kC);first|exact gB ⟨_,zg8 _ _ _ hn hm,.mk rfl n.p⟩|exact gB ⟨_,hpo,.mk rfl n.p⟩|exact gK n.p|exact gS n.p)|exact⟨_,zg8 _ _ _ hn hm,n.p⟩|exact⟨_,hpo,n.p⟩|exact sk n.p|exact ap n.p)):G:=h ⟨n⟩
theorem eii3{G:Prop}(h:G:=by((repeat' (first  |refine sy ?_|(refine aZ ?_;intros)|refine cii3 ?_|(refine s2 ?_ ?_<;>intro h7<;>try omega)));exact hQ.go _ _ _ zcz (.inr rfl) rfl)):G:=h
theorem yu3(most:Int)(ss:List Slip)(ms:List SumR)(hn:ss.length<=20)(hm:ms.length<=20):AFn (cx (zch u)) 29 [bk most ss ms] (.tup [vi (zr3 most ss ms).1,vi (zr3 most ss ms).2]):=by
 refine zg1 Tryz.func29 rfl Tryz.ntmps29 rfl rfl rfl (λQ hQ=>?_) rfl;rw [yuz] at hQ;by_cases hc:zak most ss ms=0
 .have hdcP:decide (zak most ss ms=0)=true:=decide_eq_true hc;have hdc:(!decide (zak most ss ms=0))=false:=by rw [hdcP];rfl
  have hg:=(za2 _ _ _).1 hc;have hpo:=zro (G:=zch u) hg;have hl:((rp (zaj most ss ms)).length:Int)=((zaj most ss ms).length:Int):=od
  rw [if_neg (by simp [hc]),<-hl] at hQ;exact eii3
 .have hdcP:decide (zak most ss ms=0)=false:=decide_eq_false hc;have hdc:(!decide (zak most ss ms=0))=true:=by rw [hdcP];rfl
  rw [if_pos hc] at hQ;exact eii3
theorem cii4{P G:Prop}(n:P)(h:Wr P->G:=by(intro n;first|((with_reducible apply kC);first|exact gB ⟨_,yuj _ _ _ _ hn,.mk rfl n.p⟩|exact gB ⟨_,hop,.mk rfl n.p⟩|exact gB ⟨_,zsd _ _ _ hn,.mk rfl n.p⟩|exact gB ⟨_,yt9 _ _ hfl,.mk rfl n.p⟩|exact gB ⟨_,z7j _ _,.mk rfl n.p⟩|exact gK n.p|exact gS n.p)|exact⟨_,yuj _ _ _ _ hn,n.p⟩|exact⟨_,hop,n.p⟩|exact⟨_,zsd _ _ _ hn,n.p⟩|exact⟨_,yt9 _ _ hfl,n.p⟩|exact⟨_,z7j _ _,n.p⟩|exact sk n.p|exact ap n.p)):G:=h ⟨n⟩
theorem eii4{G:Prop}(h:G:=by((repeat' (first  |refine sy ?_|(refine aZ ?_;intros)|refine cii4 ?_|(refine s2 ?_ ?_<;>intro h7<;>try omega)));refine⟨hlt,?_⟩;rw [hi1,hs];exact si)):G:=h
theorem eii5{G:Prop}(h:G:=by((repeat' (first  |refine sy ?_|(refine aZ ?_;intros)|refine cii4 ?_|(refine s2 ?_ ?_<;>intro h7<;>try omega)));exact hQ.go _ _ _ zcz (.inr rfl) rfl)):G:=h
theorem yup(most:Int)(ss:List Slip)(ms:List SumR)(slip:Int)(hn:ss.length<=20)(hm:ms.length<=20):AFn (cx G) 32 [bk most ss ms,vi slip] (.tup [vi (yt2 most ss ms slip).1,vi (yt2 most ss ms slip).2]):=by
 refine zg1 Tryz.func32 rfl Tryz.ntmps32 rfl rfl rfl (λQ hQ=>?_) rfl;have hfl:(zae ss ss.length).length<=100000:=by have:=zfi ss ss.length;omega
 by_cases hl:zcl most ss ms (zob ss slip)=0
 .have hdlP:decide (zcl most ss ms (zob ss slip)=0)=true:=decide_eq_true hl;have hdl:(!decide (zcl most ss ms (zob ss slip)=0))=false:=by rw [hdlP];rfl
  have hop:=zha (G:=G) hn hm hl;obtain⟨hg,ho,hne⟩:=zk7 hl;have hf:zmj ss slip=true:=by
   cases h:zmj ss slip with
   | true=>rfl
   | false=>rw [zob,h] at ho;cases ho
  obtain⟨j,e1,e2⟩:=yuv ((yuc ss slip).2 hf);have hj:=(kab.1 e2).1;have hpl:=zjl hg;rw [yt2,if_neg (by simp [hl])] at hQ;unfold zob at hop hdl;(repeat' (first  |refine sy ?_|(refine aZ ?_;intros)|refine cii4 ?_|(refine s2 ?_ ?_<;>intro h7<;>try omega)))
  refine zam (zaj most ss ms).length (λi=>[(2*6,.av (.sl 2 (rp (zaj most ss ms)))),(2*8,.av (vi (yan slip (zae ss ss.length)))),(2*9,.av (vi (zcg (yt5 most ss ms slip) i:Int))),(2*10,.av (vi i))]) ?_ ?_
  .exact si
  .intro i hi;have hcl:=zjz (yt5 most ss ms slip) i;rcases kae i (zaj most ss ms).length with hlt|hge
   .obtain⟨p,hp⟩:∃p,(zaj most ss ms)[i]?=some p:=⟨_,kaa hlt⟩;have hpr:=zrg hp;have hprl:i<(rp (zaj most ss ms)).length:=oa hlt
    have hd:decide ((i:Int)<((rp (zaj most ss ms)).length:Int))=true:=decide_eq_true oc;have hi1:vi ((i+1:Nat):Int)=vi ((i:Int)+1):=od
    have hps:=(zd5 hg (kag hp)).2.1;obtain⟨b,hb⟩:∃b,p.2[j]?=some b:=⟨_,kaa oc⟩;have hbr:(bl p.2)[j]?=some [vb b]:=z8h hb;have hbl:j<(bl p.2).length:=by simp;omega
    have hq:yt5 most ss ms slip i=b:=by rw [yt5,e1,kb9,show(zaj most ss ms).getD i rd0=p by simp [hp]];simp [hb]
    cases b with
    | true =>
      have hs:vi (zcg (yt5 most ss ms slip) (i+1):Int)=vi ((zcg (yt5 most ss ms slip) i:Int)+1):=by rw [zcg,if_pos hq];simp
      rw [e1];exact eii4
    | false =>
      have hs:zcg (yt5 most ss ms slip) (i+1)=zcg (yt5 most ss ms slip) i:=by rw [zcg,if_neg (by simp [hq])]
      rw [e1];exact eii4
   .obtain rfl:i=(zaj most ss ms).length:=oc
    have hd:decide (((zaj most ss ms).length:Int)<((rp (zaj most ss ms)).length:Int))=false:=od
    have hl2:((rp (zaj most ss ms)).length:Int)=((zaj most ss ms).length:Int):=od
    rw [<-hl2] at hQ;exact eii5
 .have hdlP:decide (zcl most ss ms (zob ss slip)=0)=false:=decide_eq_false hl;have hdl:(!decide (zcl most ss ms (zob ss slip)=0))=true:=by rw [hdlP];rfl
  have hop:=zhb (G:=G) hn hm hl;rw [yt2,if_pos hl] at hQ;unfold zob at hop hdl hQ;exact eii5
end
section
variable{G:zbf}{u:Nat->ByteArray}
noncomputable abbrev yu2:Func:=Tryz.f5
abbrev sL(most slip:Int)(ss:List Slip)(ms:List SumR)(ws:List Int)(sg:List Bool):AS:=[(2*1,.av (.sl 1 (il ws))),(2*2,.av (.sl 1 (bl sg))),(2*3,.av (vi slip)),(2*4,.av (.ptr 4 0)),(2*4+1,.cells 25 [vi most,.sl 7 (ss.map Slip.row),.sl 5 (ms.map SumR.row)])]
attribute [local irreducible] AOp AW ADr AFn ze1 AFt AOpJ
attribute [local irreducible] GoT
set_option maxRecDepth 20000
set_option maxHeartbeats 16000000
section
variable{most slip:Int}{ss:List Slip}{ms:List SumR}{ws:List Int}{sg:List Bool}{Q:Exit->AS->Prop}
theorem cij0{P G:Prop}(n:P)(h:Wr P->G:=by(intro n;first|((with_reducible apply kC);first|exact gB ⟨_,hsum,.mk rfl n.p⟩|exact gB ⟨_,ha1,.mk rfl n.p⟩|exact gB ⟨_,ha2,.mk rfl n.p⟩|exact gB ⟨_,hsl,.mk rfl n.p⟩|exact gB ⟨_,hs1,.mk rfl n.p⟩|exact gB ⟨_,hs2,.mk rfl n.p⟩|exact gK n.p|exact gS n.p)|exact⟨_,hsum,n.p⟩|exact⟨_,ha1,n.p⟩|exact⟨_,ha2,n.p⟩|exact⟨_,hsl,n.p⟩|exact⟨_,hs1,n.p⟩|exact⟨_,hs2,n.p⟩|exact sk n.p|exact ap n.p)):G:=h ⟨n⟩
theorem yu4{P G:Prop}(n:P)(h:Wr P->G:=by(intro nq9;first|(with_reducible exact gED nq9.p ot))):G:=h ⟨n⟩
theorem yu1{A:List Int}{l4 l5 s:Int}(hsum:AFn (cx (zch u)) 8 [] (vb true))(ha1:AFn (cx (zch u)) 18 [bk most ss ms,vi slip] (.tup [.sl 1 (il A),vi l4]))(ha2:AFn (cx (zch u)) 30 [bk most ss ms,vi slip] (.tup [.sl 1 (il A),vi l4]))(hsl:AFn (cx (zch u)) 16 [.sl 1 (il A),.sl 1 (il A)] (vb true))
  (hs1:AFn (cx (zch u)) 31 [bk most ss ms,vi slip] (.tup [vi s,vi l5])) (hs2:AFn (cx (zch u)) 32 [bk most ss ms,vi slip] (.tup [vi s,vi l5])) (hQ:EndT u yu2 Q):GoT u yu2 11 Q (sL most slip ss ms ws sg):=by
 have q4P:decide (l4=l4)=true:=decide_eq_true rfl
 have q4:(!decide (l4=l4))=false:=od
 have q5:decide (l5=l5)=true:=decide_eq_true rfl
 have q6:decide (s=s)=true:=decide_eq_true rfl
 refine got_of rfl Tryz.ntmps5 ?_
 (repeat' (first|refine yu4 ?_|refine sy ?_|(refine aZ ?_;intros)|refine cij0 ?_|(refine s2 ?_ ?_<;>intro h7<;>try omega)))
 refine fe ?_
 rfl
theorem cij1{P G:Prop}(n:P)(h:Wr P->G:=by(intro n;first|((with_reducible apply kC);first|exact gB ⟨_,hi1,.mk rfl n.p⟩|exact gB ⟨_,hi2,.mk rfl n.p⟩|exact gB ⟨_,hh1,.mk rfl n.p⟩|exact gB ⟨_,hh2,.mk rfl n.p⟩|exact gK n.p|exact gS n.p)|exact⟨_,hi1,n.p⟩|exact⟨_,hi2,n.p⟩|exact⟨_,hh1,n.p⟩|exact⟨_,hh2,n.p⟩|exact sk n.p|exact ap n.p)):G:=h ⟨n⟩
theorem yu6{b:Bool}{l2 l3 n:Int}(hi1:AFn (cx (zch u)) 27 [bk most ss ms,.sl 1 (il ws),.sl 1 (bl sg)] (.tup [vb b,vi l2]))(hi2:AFn (cx (zch u)) 28 [bk most ss ms,.sl 1 (il ws),.sl 1 (bl sg)] (.tup [vb b,vi l2]))
  (hh1:AFn (cx (zch u)) 21 [bk most ss ms] (.tup [vi n,vi l3])) (hh2:AFn (cx (zch u)) 29 [bk most ss ms] (.tup [vi n,vi l3])) (h11:GoT u yu2 11 Q (sL most slip ss ms ws sg)):GoT u yu2 5 Q (sL most slip ss ms ws sg):=by
 have q2P:decide (l2=l2)=true:=decide_eq_true rfl
 have q2:(!decide (l2=l2))=false:=od
 have q3P:decide (l3=l3)=true:=decide_eq_true rfl
 have q3:(!decide (l3=l3))=false:=od
 have q4P:decide (n=n)=true:=decide_eq_true rfl
 have q4:(!decide (n=n))=false:=od
 refine got_of rfl Tryz.ntmps5 ?_
 cases b
 ·(repeat' (first|refine yu4 ?_|exact got_at h11 rfl Tryz.ntmps5 oT |refine sy ?_|(refine aZ ?_;intros)|refine cij1 ?_|(refine s2 ?_ ?_<;>intro h7<;>try omega)))
 ·(repeat' (first|refine yu4 ?_|exact got_at h11 rfl Tryz.ntmps5 oT |refine sy ?_|(refine aZ ?_;intros)|refine cij1 ?_|(refine s2 ?_ ?_<;>intro h7<;>try omega)))
theorem cij2{P G:Prop}(n:P)(h:Wr P->G:=by(intro n;first|((with_reducible apply kC);first|exact gB ⟨_,hp1,.mk rfl n.p⟩|exact gB ⟨_,hp2,.mk rfl n.p⟩|exact gB ⟨_,hc1,.mk rfl n.p⟩|exact gB ⟨_,hc2,.mk rfl n.p⟩|exact gB ⟨_,hx,.mk rfl n.p⟩|exact gB ⟨_,hw,.mk rfl n.p⟩|exact gK n.p|exact gS n.p)|exact⟨_,hp1,n.p⟩|exact⟨_,hp2,n.p⟩|exact⟨_,hc1,n.p⟩|exact⟨_,hc2,n.p⟩|exact⟨_,hx,n.p⟩|exact⟨_,hw,n.p⟩|exact sk n.p|exact ap n.p)):G:=h ⟨n⟩
theorem yu7{X W:List Int}{l1 c:Int}(hp1:AFn (cx (zch u)) 24 [bk most ss ms,.sl 1 (il ws),.sl 1 (bl sg)] (.tup [.sl 1 (il X),.sl 1 (il W),vi l1]))(hp2:AFn (cx (zch u)) 25 [bk most ss ms,.sl 1 (il ws),.sl 1 (bl sg)] (.tup [.sl 1 (il X),.sl 1 (il W),vi l1]))
  (hc1:AFn (cx (zch u)) 26 [bk most ss ms] (vi c)) (hc2:AFn (cx (zch u)) 12 [bk most ss ms] (vi c)) (hx:AFn (cx (zch u)) 16 [.sl 1 (il X),.sl 1 (il X)] (vb true)) (hw:AFn (cx (zch u)) 16 [.sl 1 (il W),.sl 1 (il W)] (vb true)) (h5:GoT u yu2 5 Q (sL most slip ss ms ws sg)):GoT u yu2 2 Q (sL most slip ss ms ws sg):=by
 have q1P:decide (l1=l1)=true:=decide_eq_true rfl
 have q1:(!decide (l1=l1))=false:=od
 have q2P:decide (c=c)=true:=decide_eq_true rfl
 have q2:(!decide (c=c))=false:=od
 refine got_of rfl Tryz.ntmps5 ?_
 (repeat' (first|refine yu4 ?_|exact got_at h5 rfl Tryz.ntmps5 oT |refine sy ?_|(refine aZ ?_;intros)|refine cij2 ?_|(refine s2 ?_ ?_<;>intro h7<;>try omega)))
end
theorem cij3{P G:Prop}(n:P)(h:Wr P->G:=by(intro n;first|((with_reducible apply kC);first|exact gB ⟨_,z1f _ _ _,.mk rfl n.p⟩|exact gB ⟨_,hsum,.mk rfl n.p⟩|exact gK n.p|exact gS n.p)|exact⟨_,z1f _ _ _,n.p⟩|exact⟨_,hsum,n.p⟩|exact sk n.p|exact ap n.p)):G:=h ⟨n⟩
theorem eij0{G:Prop}(h:G:=by((repeat' (first|refine yu4 ?_|exact got_at h2 rfl Tryz.ntmps5 oT |refine sy ?_|(refine aZ ?_;intros)|refine cij3 ?_|(refine s2 ?_ ?_<;>intro h7<;>try omega)));refine fe ?_;rfl)):G:=h
theorem yun(u:Nat->ByteArray)(hsum:AFn (cx (zch u)) 8 [] (vb true))(most:Int)(ss:List Slip)(ms:List SumR)(ws:List Int)(sg:List Bool)(slip:Int) :
  Top (cx (zch u)) 5 [bk most ss ms,.sl 1 (il ws),.sl 1 (bl sg),vi slip] (vb true):=by
 refine top_by Tryz.func5 ot rfl Tryz.ntmps5 rfl rfl ?_ rfl
 refine zab λQ hQ=>?_
 by_cases hg:20<ss.length\/20<ms.length
 .have hd1:decide (20<ss.length\/20<ms.length)=true:=decide_eq_true hg;exact eij0
 have hd1:decide (20<ss.length\/20<ms.length)=false:=decide_eq_false hg
 by_cases hw:20<ws.length
 .have hd2:decide ((20:Int)<((il ws).length:Int))=true:=decide_eq_true oy;exact eij0
 have hd2:decide ((20:Int)<((il ws).length:Int))=false:=decide_eq_false oy
 by_cases hs:20<sg.length
 .have hd3:decide ((20:Int)<((bl sg).length:Int))=true:=decide_eq_true oy;exact eij0
 have hd3:decide ((20:Int)<((bl sg).length:Int))=false:=decide_eq_false oy
 have hn:ss.length<=20:=oc
 have hm:ms.length<=20:=oc
 have hw':ws.length<=20:=oc
 have hs':sg.length<=20:=oc
 have h2:GoT u yu2 2 Q (sL most slip ss ms ws sg):=by
  have hp1:=z9z (u:=u) most ss ms ws sg hn hm oc;rw [yux,yuw,yt4] at hp1;have hp2:=yue (G:=zch u) most ss ms ws sg hn hm hw' hs';have hxl:(if yt0 most ss ms ws sg≠0 then [] else zc7 ss (ws,sg)).length<=100000:=by
   split
   .simp
   .rw [zb6];omega
  have hwl:(if yt0 most ss ms ws sg≠0 then [] else zan ss ms (zc7 ss (ws,sg))).length<=100000:=by
   split
   .simp
   .have:=yp9 ss ms (zc7 ss (ws,sg));omega
  have hx:=zg5 (G:=zch u) _ _ hxl hxl;have hy:=zg5 (G:=zch u) _ _ hwl hwl;rw [decide_eq_true rfl] at hx hy;have hi1:=yq9 (u:=u) most ss ms ws sg hn hm oc;rw [yu8,yt4] at hi1;have hi2:=yu9 (G:=zch u) most ss ms ws sg hn hm hw' hs';have hh1:=zkg (u:=u) most ss ms hn hm;have hh2:=yu3 (u:=u) most ss ms hn hm;have ha1:=ymf (u:=u) most ss ms slip hn hm;rw [yvb,zjp] at ha1
  have ha2:=yug (G:=zch u) most ss ms slip hn hm;have hal:(yuf most ss ms slip).length<=100000:=by
   unfold yuf;split
   .rename_i hl;have hg:=(zk7 hl).1;have h1:=yqr (zql ss (zaj most ss ms) slip.toNat);have h2:=zjl hg;have h3:(zql ss (zaj most ss ms) slip.toNat).length=(zaj most ss ms).length:=by simp [zql]
    omega
   .simp
  have hsl:=zg5 (G:=zch u) _ _ hal hal;rw [decide_eq_true rfl] at hsl;have hs1:=z4j (u:=u) most ss ms slip hn hm;rw [yuo] at hs1;have hs2:=yup (G:=zch u) most ss ms slip hn hm;exact yu7 hp1 hp2 (zbh (u:=u) most ss ms hn hm) (zg8 (G:=zch u) most ss ms hn hm) hx hy (yu6 hi1 hi2 hh1 hh2 (yu1 hsum ha1 ha2 hsl hs1 hs2 hQ))
 (repeat' (first|refine yu4 ?_|exact got_at h2 rfl Tryz.ntmps5 oT |refine sy ?_|(refine aZ ?_;intros)|refine cij3 ?_|(refine s2 ?_ ?_<;>intro h7<;>try omega)))
end
end Go.Ab.J
namespace Go.Proofs.YtfgciihkmemdlaaGreatDoor
open Go Go.Ab Go.Ab.J
theorem salesSlips_holds:Rows.SalesSlipsCardSaid:=ybe λu most ss ms ws sg slip=>yun u summed_a most ss ms ws sg slip
end Go.Proofs.YtfgciihkmemdlaaGreatDoor
