/- What all laws about sales rest on, beside any goroutines. Conditions: none. -/
import Derived.Test.YtfgciihkmemdlaaGreatDoorZH
namespace Go.Ab.J
open Go Go.Proofs Go.Kp
section
variable{G:zbf}{u:Nat->ByteArray}
theorem exv_h:zr3 1 exS exM=(4,0):=by decide +kernel
theorem yd5:zr3 1 exO exM=(4,0):=by decide +kernel
theorem exv_p:zcp 1 exS exM [21,10,5,30] [true]=(([21,10,5,30,0,0],[false,false,false,true,false,false]),0):=by decide +kernel
theorem yd4:zxt 1 exS exM [21,10,5,30] [true]=[30,10,5,0]:=by decide +kernel
theorem yd3:zxs 1 exS exM [21,10,5,30] [true]=[0,1]:=by decide +kernel
theorem exv_g:zh4 1 exS exM 3=(2,0):=by decide +kernel
theorem exv_d:zyr 1 exS exM 1 1=((25,26),0):=by decide +kernel
theorem exv_f:zge 1 exS exM 1=(1,0):=by decide +kernel
theorem exv_t:zge 1 exS exM 0=(2,0):=by decide +kernel
theorem exv_w:zjw 1 exS exM=([1],0):=by decide +kernel
theorem exv_k:zyu 1 exS exM=((0,2),0):=by decide +kernel
theorem exv_s:zkp 1 exS exM 3 false=0:=by decide +kernel
theorem yd2:zrc exS 3 false=exO:=by decide +kernel
theorem ypm:zbt 1 exS exM (ykm exS 0)=0:=by decide +kernel
theorem exv_a:ym3 1 exS exM 0=[20,21,22]:=by rw [ym3,if_pos ypm,ynm];decide +kernel
theorem ypl:AFn (cx (zch u)) 18 [bk 1 exS exM,vi 0] (.tup [.sl 1 (il [20,21,22]),vi 0]):=by have h:=ymf (u:=u) 1 exS exM 0 oe oe;rw [exv_a,ypm] at h;exact h
def dd:List Nat->List Nat
 | []=>[]
 | x::xs=>bif (dd xs).any (Nat.beq x) then dd xs else x::dd xs
theorem z0t(x:Nat):∀l,x∈dd l↔x∈l
 | []=>Iff.rfl
 | y::l=>by
   have ih:=z0t x l;simp only [dd];cases h:(dd l).any (Nat.beq y) with
   | true =>obtain⟨z,hz,hy⟩:=kaz.1 h;have e:=kaj hy;subst e;simp only [cond_true,kat,ih];exact⟨.inr,λhx=>hx.elim (λe=>e▸(z0t y l).1 hz) id⟩
   | false=>simp only [cond_false,kat,ih]
def ancD:List Oper->List (List Nat)->List (List Nat)
 | [],acc=>acc
 | o::os,acc=>ancD os (acc++[dd (o.after.toList.flatMap λe=>bif Region.binds .any e then e.on::acc.getD e.on [] else [])])
def zng(l l':List (List Nat)):Prop:=l.length=l'.length/\∀i x,x∈l.getD i []↔x∈l'.getD i []
theorem zng.app{l l':List (List Nat)}{a b:List Nat}(h:zng l l')(hab:∀x,x∈a↔x∈b):zng (l++[a]) (l'++[b]):=by
 refine⟨by simp [h.1],λi x=>?_⟩;have h2:=h.2 i x;simp only [kai] at h2 |-;rcases kdd i l.length with hi|hi|hi
 .rw [kam hi,kam (h.1▸hi)];exact h2
 .rw [kao oc,kao (by have:=h.1;omega),hi,<-h.1];simpa using hab x
 .rw [kay oy,kay (by have:=h.1;simp;omega)]
theorem zw3:∀(os:List Oper) {acc acc':List (List Nat)},zng acc acc'->zng (zj8 os acc) (ancD os acc')
 | [],_,_,h=>h
 | o::os,acc,acc',h=>zw3 os (h.app λx=>by
    rw [z0t];simp only [kcq];refine exists_congr λe=>and_congr_right λ_=>?_;cases Region.binds .any e
    .exact Iff.rfl
    .simp only [cond_true,kat,h.2 e.on x])
def ordW(anc:List (List Nat))(ops:List Oper)(data:List (List Nat×List Nat)):Bool :=
 Nat.beq data.length ops.length&&anc.zipIdx.all (λp=>p.1.all λk=>Nat.blt k p.2)&&(List.range ops.length).all λj=>(List.range j).all λi=>zoa anc data i j
theorem zng.get{l l':List (List Nat)}(h:zng l l'){i:Nat}{a:List Nat}(ha:l[i]?=some a):∃b,l'[i]?=some b/\∀x,x∈a↔x∈b:=by have hi:=(kab.1 ha).1;have hb:=kaa (l:=l') (i:=i) (h.1▸hi);refine⟨_,hb,λx=>?_⟩;have:=h.2 i x;simpa [kai,ha,hb] using this
theorem zng.symm{l l':List (List Nat)}(h:zng l l'):zng l' l:=⟨h.1.symm,λi x=>(h.2 i x).symm⟩
theorem z0c{l l':List (List Nat)}(h:zng l l'){data:List (List Nat×List Nat)}{i j:Nat}(hp:zoa l' data i j=true):zoa l data i j=true:=by
 unfold zoa at hp |-;cases hb:l'[j]? with
 | none=>rw [hb] at hp;split at hp<;>simp_all
 | some b =>
   obtain⟨a,ha,hab⟩:=h.symm.get hb;rw [hb] at hp;rw [ha];split at hp
   .rename_i Ri Wi Rj Wj l0 h1 h2 h3;cases h3
    rw [h1,h2];simp only [kc1] at hp |-;refine hp.imp (λhx=>?_) id;obtain⟨x,hx,he⟩:=kaz.1 hx;exact kaz.2 ⟨x,(hab x).1 hx,he⟩
   .cases hp
theorem z94{ops:List Oper}{data:List (List Nat×List Nat)}(h:ordW (ancD ops []) ops data=true):ztw ops data=true:=by
 have hs:=zw3 ops (acc:=[]) (acc':=[]) ⟨rfl,λ_ _=>Iff.rfl⟩;show ordW (zj8 ops []) ops data=true;unfold ordW at h |-;simp only [ka0,kar] at h |-;obtain⟨⟨h1,h2⟩,h3⟩:=h;refine⟨⟨h1,λp hp k hk=>?_⟩,λj hj i hi=>z0c hs (h3 j hj i hi)⟩;obtain⟨a,i⟩:=p;have ha:(zj8 ops [])[i]?=some a:=by simpa using kc7.1 hp
 obtain⟨b,hb,hab⟩:=hs.get ha;exact h2 (b,i) (kc7.2 (oa hb)) k ((hab k).1 hk)
theorem gED{C:Cx}{N:Nat}{ops:List Oper}{dr:Bool}{K:AS->Prop}{acc:List (List Nat×List Nat)}{s:AS}(h:K s)(ho:ordW (ancD ops []) ops acc.reverse=true):ADr C N ops dr K [] acc s:=⟨λ_=>z94 ho,h⟩
def tl:Nat->Option Code->Option Code
 | 0,o=>o
 | n+1,some (.seq _ e)=>tl n (some e)
 | _,_=>none
def Go5(u:Nat->ByteArray)(k:Nat)(Q:Exit->AS->Prop)(s:AS):Prop:=∀c,tl k Tryz.f8.body=some c->AW (cx (zch u)) none 198 c Q s
theorem zr6{k:Nat}{Q:Exit->AS->Prop}{s:AS}{c:Code}(e:tl k Tryz.f8.body=some c)(h:AW (cx (zch u)) none 198 c Q s):Go5 u k Q s:=λ_c' e'=>kaw (e.symm.trans e')▸h
theorem zpz{k:Nat}{Q:Exit->AS->Prop}{s s':AS}{c:Code}(h:Go5 u k Q s')(e:tl k Tryz.f8.body=some c)(hs:Sub (zch u) 198 s s'):AW (cx (zch u)) none 198 c Q s:=zbx hs (h c e)
attribute [local irreducible] AOp AW ADr AFn ze1 AFt AOpJ
attribute [local irreducible] Go5
set_option maxRecDepth 20000
set_option maxHeartbeats 16000000
abbrev sS3:AS:=[(2*1,.av (.ptr 1 0)),(2*1+1,.cells 25 [vi 1,.sl 7 (exS.map Slip.row),.sl 5 (exM.map SumR.row)]),(2*2,.av (vi 4)),(2*3,.av (vi 0))]
abbrev sS5:AS:=[(2*1,.av (.ptr 1 0)),(2*1+1,.cells 25 [vi 1,.sl 7 (exS.map Slip.row),.sl 5 (exM.map SumR.row)]),(2*2,.av (vi 4)),(2*3,.av (vi 0)),(2*4,.av (.sl 1 (il [30,10,5,0]))),(2*5,.av (.sl 1 (il [0,1]))),(2*6,.av (vi 0)),(2*7,.av (.sl 1 (il [20,21,22]))),(2*8,.av (vi 0))]
abbrev sS9:AS:=[(2*1,.av (.ptr 1 0)),(2*1+1,.cells 25 [vi 1,.sl 7 (exS.map Slip.row),.sl 5 (exM.map SumR.row)]),(2*2,.av (vi 4)),(2*3,.av (vi 0)),(2*4,.av (.sl 1 (il [30,10,5,0]))),(2*5,.av (.sl 1 (il [0,1]))),(2*6,.av (vi 0)),(2*7,.av (.sl 1 (il [20,21,22]))),(2*8,.av (vi 0)),(2*9,.av (vi 2)),(2*10,.av (vi 0)),(2*11,.av (.ptr 11 0)),(2*11+1,.cells 33 [vi 25,vi 26]),(2*12,.av (vi 0)),(2*13,.av (vi 1)),(2*14,.av (vi 0)),(2*15,.av (vi 2)),(2*16,.av (vi 0))]
abbrev sS11:AS:=[(2*1,.av (.ptr 1 0)),(2*1+1,.cells 25 [vi 1,.sl 7 (exS.map Slip.row),.sl 5 (exM.map SumR.row)]),(2*2,.av (vi 4)),(2*3,.av (vi 0)),(2*4,.av (.sl 1 (il [30,10,5,0]))),(2*5,.av (.sl 1 (il [0,1]))),(2*6,.av (vi 0)),(2*7,.av (.sl 1 (il [20,21,22]))),(2*8,.av (vi 0)),(2*9,.av (vi 2)),(2*10,.av (vi 0)),(2*11,.av (.ptr 11 0)),(2*11+1,.cells 33 [vi 25,vi 26]),(2*12,.av (vi 0)),(2*13,.av (vi 1)),(2*14,.av (vi 0)),(2*15,.av (vi 2)),(2*16,.av (vi 0)),(2*17,.av (.sl 1 (il [1]))),(2*18,.av (vi 0)),(2*19,.av (vi 0)),(2*20,.av (vi 2)),(2*21,.av (vi 0))]
abbrev sS13:AS:=[(2*2,.av (vi 4)),(2*3,.av (vi 0)),(2*4,.av (.sl 1 (il [30,10,5,0]))),(2*5,.av (.sl 1 (il [0,1]))),(2*6,.av (vi 0)),(2*7,.av (.sl 1 (il [20,21,22]))),(2*8,.av (vi 0)),(2*9,.av (vi 2)),(2*10,.av (vi 0)),(2*11,.av (.ptr 11 0)),(2*11+1,.cells 33 [vi 25,vi 26]),(2*12,.av (vi 0)),(2*13,.av (vi 1)),(2*14,.av (vi 0)),(2*15,.av (vi 2)),(2*16,.av (vi 0)),(2*17,.av (.sl 1 (il [1]))),(2*18,.av (vi 0)),(2*19,.av (vi 0)),(2*20,.av (vi 2)),(2*21,.av (vi 0)),(2*23,.av (vi 7)),(2*24,.av (.ptr 24 0)),(2*24+1,.cells 25 [vi 1,.sl 7 (exO.map Slip.row),.sl 5 (exM.map SumR.row)]),(2*25,.av (vi 0))]
abbrev sS15:AS:=[(2*2,.av (vi 4)),(2*3,.av (vi 0)),(2*4,.av (.sl 1 (il [30,10,5,0]))),(2*5,.av (.sl 1 (il [0,1]))),(2*6,.av (vi 0)),(2*7,.av (.sl 1 (il [20,21,22]))),(2*8,.av (vi 0)),(2*9,.av (vi 2)),(2*10,.av (vi 0)),(2*11,.av (.ptr 11 0)),(2*11+1,.cells 33 [vi 25,vi 26]),(2*12,.av (vi 0)),(2*13,.av (vi 1)),(2*14,.av (vi 0)),(2*15,.av (vi 2)),(2*16,.av (vi 0)),(2*17,.av (.sl 1 (il [1]))),(2*18,.av (vi 0)),(2*19,.av (vi 0)),(2*20,.av (vi 2)),(2*21,.av (vi 0)),(2*23,.av (vi 7)),(2*25,.av (vi 0)),(2*26,.av (vi 4)),(2*27,.av (vi 0)),(2*28,.av (.ptr 28 0)),(2*28+1,.cells 25 [vi 1,.sl 7 (exC.map Slip.row),.sl 5 (exM.map SumR.row)]),(2*29,.av (vi 0))]
abbrev sS16:AS:=[(2*2,.av (vi 4)),(2*4,.av (.sl 1 (il [30,10,5,0]))),(2*5,.av (.sl 1 (il [0,1]))),(2*7,.av (.sl 1 (il [20,21,22]))),(2*9,.av (vi 2)),(2*11,.av (.ptr 11 0)),(2*11+1,.cells 33 [vi 25,vi 26]),(2*13,.av (vi 1)),(2*15,.av (vi 2)),(2*17,.av (.sl 1 (il [1]))),(2*19,.av (vi 0)),(2*20,.av (vi 2)),(2*26,.av (vi 4)),(2*28,.av (.ptr 28 0)),(2*28+1,.cells 25 [vi 1,.sl 7 (exC.map Slip.row),.sl 5 (exM.map SumR.row)])]
abbrev sS17:AS:=[(2*4,.av (.sl 1 (il [30,10,5,0]))),(2*5,.av (.sl 1 (il [0,1]))),(2*7,.av (.sl 1 (il [20,21,22]))),(2*17,.av (.sl 1 (il [1])))]
theorem cvx0{P G:Prop}(n:P)(h:Wr P->G:=by(intro n;first|((with_reducible apply kC);first|exact gB ⟨_,hp,.mk rfl n.p⟩|exact gB ⟨_,ypl,.mk rfl n.p⟩|exact gK n.p|exact gS n.p)|exact⟨_,hp,n.p⟩|exact⟨_,ypl,n.p⟩|exact sk n.p|exact ap n.p)):G:=h ⟨n⟩
theorem seg3{Q:Exit->AS->Prop}(h:Go5 u 5 Q sS5):Go5 u 3 Q sS3:=by
 have hp:AFn (cx (zch u)) 24 [bk 1 exS exM,.sl 1 (il [21,10,5,30]),.sl 1 (bl [true])] (.tup [.sl 1 (il [30,10,5,0]),.sl 1 (il [0,1]),vi 0]):=by have h:=z9z (u:=u) 1 exS exM [21,10,5,30] [true] oe oe oe;rw [exv_p,yd4,yd3] at h;exact h
 refine zr6 rfl ?_;(repeat' (first|exact zpz h rfl oT|refine sy ?_|(refine aZ ?_;intros)|refine cvx0 ?_|fail))
theorem cvx1{P G:Prop}(n:P)(h:Wr P->G:=by(intro n;first|((with_reducible apply kC);first|exact gB ⟨_,hg,.mk rfl n.p⟩|exact gB ⟨_,hd,.mk rfl n.p⟩|exact gB ⟨_,hf,.mk rfl n.p⟩|exact gB ⟨_,ht,.mk rfl n.p⟩|exact gK n.p|exact gS n.p)|exact⟨_,hg,n.p⟩|exact⟨_,hd,n.p⟩|exact⟨_,hf,n.p⟩|exact⟨_,ht,n.p⟩|exact sk n.p|exact ap n.p)):G:=h ⟨n⟩
theorem seg5{Q:Exit->AS->Prop}(h:Go5 u 9 Q sS9):Go5 u 5 Q sS5:=by
 have hg:AFn (cx (zch u)) 31 [bk 1 exS exM,vi 3] (.tup [vi 2,vi 0]):=by have h:=z4j (u:=u) 1 exS exM 3 oe oe;rw [exv_g] at h;exact h
 have hd:AFn (cx (zch u)) 14 [bk 1 exS exM,vi 1,vi 1] (.tup [.agg [vi 25,vi 26],vi 0]):=by have h:=sum_a (u:=u) 1 exS exM 1 1 oe oe;rw [exv_d] at h;exact h
 have hf:AFn (cx (zch u)) 44 [bk 1 exS exM,vi 1] (.tup [vi 1,vi 0]):=by have h:=zuj (u:=u) 1 exS exM 1 oe oe;rw [exv_f] at h;exact h
 have ht:AFn (cx (zch u)) 44 [bk 1 exS exM,vi 0] (.tup [vi 2,vi 0]):=by have h:=zuj (u:=u) 1 exS exM 0 oe oe;rw [exv_t] at h;exact h
 refine zr6 rfl ?_;(repeat' (first|exact zpz h rfl oT|refine sy ?_|(refine aZ ?_;intros)|refine cvx1 ?_|fail))
theorem cvx2{P G:Prop}(n:P)(h:Wr P->G:=by(intro n;first|((with_reducible apply kC);first|exact gB ⟨_,hw,.mk rfl n.p⟩|exact gB ⟨_,hk,.mk rfl n.p⟩|exact gK n.p|exact gS n.p)|exact⟨_,hw,n.p⟩|exact⟨_,hk,n.p⟩|exact sk n.p|exact ap n.p)):G:=h ⟨n⟩
theorem seg9{Q:Exit->AS->Prop}(h:Go5 u 11 Q sS11):Go5 u 9 Q sS9:=by
 have hw:AFn (cx (zch u)) 15 [bk 1 exS exM] (.tup [.sl 1 (il [1]),vi 0]):=by have h:=zwk (u:=u) 1 exS exM oe oe;rw [exv_w,if_neg oe] at h;exact h
 have hk:AFn (cx (zch u)) 45 [bk 1 exS exM] (.tup [vi 0,vi 2,vi 0]):=by have h:=ask_a (u:=u) 1 exS exM oe oe;rw [exv_k] at h;exact h
 refine zr6 rfl ?_;(repeat' (first|exact zpz h rfl oT|refine sy ?_|(refine aZ ?_;intros)|refine cvx2 ?_|fail))
theorem cvx3{P G:Prop}(n:P)(h:Wr P->G:=by(intro n;first|((with_reducible apply kC);first|exact gB ⟨_,zsn,.mk rfl n.p⟩|exact gB ⟨_,hs,.mk rfl n.p⟩|exact gK n.p|exact gS n.p)|exact⟨_,zsn,n.p⟩|exact⟨_,hs,n.p⟩|exact sk n.p|exact ap n.p)):G:=h ⟨n⟩
theorem seg11{Q:Exit->AS->Prop}(h:Go5 u 13 Q sS13):Go5 u 11 Q sS11:=by
 have hs:AFn (cx (zch u)) 35 [bk 1 exS exM,vi 3,vb false] (.tup [bk 1 exO exM,vi 0]):=by have h:=z9o (u:=u) 1 exS exM 3 false oe oe;rw [zil,exv_s,yd2,if_pos rfl] at h;exact h
 refine zr6 rfl ?_;(repeat' (first|exact zpz h rfl oT|refine sy ?_|(refine aZ ?_;intros)|refine cvx3 ?_|fail))
theorem cvx4{P G:Prop}(n:P)(h:Wr P->G:=by(intro n;first|((with_reducible apply kC);first|exact gB ⟨_,hho,.mk rfl n.p⟩|exact gB ⟨_,zso,.mk rfl n.p⟩|exact gK n.p|exact gS n.p)|exact⟨_,hho,n.p⟩|exact⟨_,zso,n.p⟩|exact sk n.p|exact ap n.p)):G:=h ⟨n⟩
theorem seg13{Q:Exit->AS->Prop}(h:Go5 u 15 Q sS15):Go5 u 13 Q sS13:=by
 have hho:AFn (cx (zch u)) 21 [bk 1 exO exM] (.tup [vi 4,vi 0]):=by have h:=zkg (u:=u) 1 exO exM oe oe;rw [yd5] at h;exact h
 refine zr6 rfl ?_;(repeat' (first|exact zpz h rfl oT|refine sy ?_|(refine aZ ?_;intros)|refine cvx4 ?_|fail))
theorem seg15{Q:Exit->AS->Prop}(h:Go5 u 16 Q sS16):Go5 u 15 Q sS15:=by have q0:(!decide ((0:Int)=0))=false:=rfl;have q1:(!decide ((1:Int)=1))=false:=rfl;have q2:(!decide ((2:Int)=2))=false:=rfl;have q4:(!decide ((4:Int)=4))=false:=rfl;have q7:(!decide ((7:Int)=7))=false:=rfl;refine zr6 rfl ?_;(repeat' (first|exact zpz h rfl oT|refine sy ?_|(refine aZ ?_;intros)|refine w0 ?_|fail))
theorem cvx5{P G:Prop}(n:P)(h:Wr P->G:=by(intro n;first|((with_reducible apply kC);first|exact gB ⟨_,to_a _ _,.mk rfl n.p⟩|exact gK n.p|exact gS n.p)|exact⟨_,to_a _ _,n.p⟩|exact sk n.p|exact ap n.p)):G:=h ⟨n⟩
theorem seg16{Q:Exit->AS->Prop}(h:Go5 u 17 Q sS17):Go5 u 16 Q sS16:=by
 have q0:(!decide ((0:Int)=0))=false:=rfl;have q1:(!decide ((1:Int)=1))=false:=rfl;have q2:(!decide ((2:Int)=2))=false:=rfl;have q4:(!decide ((4:Int)=4))=false:=rfl;have q7:(!decide ((7:Int)=7))=false:=rfl;refine zr6 rfl ?_
 (repeat' (first|exact zpz h rfl oT|(with_reducible refine gED ?_ ot)|(refine g1 ?_ om ⟨z27 oe rfl rfl,z1y rfl rfl rfl⟩)|refine sy ?_|(refine aZ ?_;intros)|refine cvx5 ?_|fail))
theorem cvx6{P G:Prop}(n:P)(h:Wr P->G:=by(intro n;first|((with_reducible apply kC);first|exact gB ⟨_,hss,.mk rfl n.p⟩|exact gK n.p|exact gS n.p)|exact⟨_,hss,n.p⟩|exact sk n.p|exact ap n.p)):G:=h ⟨n⟩
theorem seg17{Q:Exit->AS->Prop}(hQ:EndF (cx (zch u)) 198 Tryz.f8.results.toList (vb true) Q):Go5 u 17 Q sS17:=by have hss:=ztm (G:=zch u) [[30,10,5,0],[0,1],[20,21,22],[1]] [[30,10,5,0],[0,1],[20,21,22],[1]] oe oe oe oe;refine zr6 rfl ?_;(repeat' (first|refine sy ?_|(refine aZ ?_;intros)|refine cvx6 ?_|fail));exact hQ.go _ _ _ zcz (.inr rfl) rfl
theorem cvx7{P G:Prop}(n:P)(h:Wr P->G:=by(intro n;first|((with_reducible apply kC);first|exact gB ⟨_,zsk,.mk rfl n.p⟩|exact gB ⟨_,hh,.mk rfl n.p⟩|exact gK n.p|exact gS n.p)|exact⟨_,zsk,n.p⟩|exact⟨_,hh,n.p⟩|exact sk n.p|exact ap n.p)):G:=h ⟨n⟩
theorem summed_a:AFn (cx (zch u)) 8 [] (vb true):=by
 refine zg1 Tryz.func8 rfl Tryz.ntmps8 rfl rfl rfl (λQ hQ=>?_) rfl;have hh:AFn (cx (zch u)) 21 [bk 1 exS exM] (.tup [vi 4,vi 0]):=by have h:=zkg (u:=u) 1 exS exM oe oe;rw [exv_h] at h;exact h
 (repeat' (first|exact zpz (seg3 (seg5 (seg9 (seg11 (seg13 (seg15 (seg16 (seg17 hQ)))))))) rfl oT|refine sy ?_|(refine aZ ?_;intros)|refine cvx7 ?_|fail))
end
end Go.Ab.J
