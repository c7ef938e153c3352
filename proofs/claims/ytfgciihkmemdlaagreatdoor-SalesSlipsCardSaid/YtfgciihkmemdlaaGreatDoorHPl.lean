/- Pieces of a law about sales. Conditions: none. -/
import Derived.Test.YtfgciihkmemdlaaGreatDoorHPi
import Derived.Test.YtfgciihkmemdlaaGreatDoorHPj
namespace Go.Ab
open Go Go.RowKit
theorem ysh{G:zbf}{N:Nat}{s:AS}{wd:Nat}{T:TypeId}{rows:List (List AV)}(t i:Nat)(ht:zac s (2*t)=some (.av (.own i)))(hl:zac s (2*i+1)=some (.buf wd T rows))(hN:t<N) :
  Sub G N s ((2*t,.av (.sl wd rows))::(2*i+1,.frz wd rows)::s):=λw0 a w E hr=>by
 obtain⟨E',h1,h2,h3,h4⟩:=hr.frz1 hl
 have hm0:=h1.mem i (.frz wd rows) (by rw [zaa,if_pos rfl])
 have hm:Rep E' w (.sl wd rows) (E'.buf i):=hm0
 have hv:a.tmps.getD t undef=E'.buf i:=zda (h1.tmp t _ (by rw [zaa,if_neg (oc)];exact ht))
 have h5:=h1.put hN (x:=.sl wd rows) (v:=a.tmps.getD t undef) (by rw [hv];exact hm) (λk hk=>by simp [AV.ids] at hk)
 rw [zvs] at h5
 exact⟨_,h5⟩
end Go.Ab
namespace Go.Ab.J
open Go Go.Proofs Go.Kp
variable{G:zbf}{u:Nat->ByteArray}
attribute [local irreducible] AOp AW ADr AFn ze1 AFt AOpJ
set_option maxRecDepth 20000
set_option maxHeartbeats 8000000
abbrev soSt(l O:List Int)(i k:Nat):AS:=[(2*0,.av (.sl 1 (il l))),(2*3,.av (.sl 1 (il O))),(2*4,.av (vi i)),(2*5,.av (vi k))]
theorem uss0{P G:Prop}(n:P)(h:Wr P->G:=by(intro nq9;first|exact g1 nq9.p oG ⟨a_slH oe rfl rfl rfl rfl rfl rfl oy,ys3 rfl rfl⟩|exact g1 nq9.p oG ⟨a_slL oe rfl rfl rfl rfl rfl rfl oy,ys3 rfl rfl⟩)):G:=h ⟨n⟩
theorem ysm(l:List Int)(hl:l.length<=100000):AFn (cx G) 95 [.sl 1 (il l)] (.sl 1 (il (yls l))):=by
 refine zg1 Tryz.func95 rfl Tryz.ntmps95 rfl rfl rfl (λQ hQ=>?_) rfl;(repeat' (first|refine sy ?_|(refine aZ ?_;intros)|refine w0 ?_|fail));refine zbx (zze 3 1 rfl) ?_;refine zam l.length (λi=>[(2*0,.av (.sl 1 (il l))),(2*3,.av (.sl 1 (il (ymw l i)))),(2*4,.av (vi i))]) ?_ ?_
 .exact si
 .intro i hi;rcases kae i l.length with hlt|hge
  .have hd:decide ((i:Int)<((il l).length:Int))=true:=by simp;omega
   have hi1:vi ((i+1:Nat):Int)=vi ((i:Int)+1):=od
   have hol:=yqf l i;have hs:ymw l (i+1)=yo0 (ymw l i) (l.getD i 0):=rfl;generalize ymw l i=O at hol hs |-;generalize hx:l.getD i 0=x at hs;have vx:=ykt hlt;rw [hx] at vx;have lx:i<(il l).length:=by simp;exact hlt
   obtain⟨k1,_,_⟩:=ymo O x O.length;unfold yo0 at hs;generalize hK:dnK O x O.length=K at k1 hs;have eO:vi (((il O).length:Nat):Int)=vi ((O.length:Nat):Int):=od
   (repeat' (first|refine aSK (c:=.block 2 _) (λ_:Unit=>soSt l O i K) (λ_=>True) ?_ ?_|refine sy ?_|(refine aZ ?_;intros)|refine w0 ?_|fail))
   .intro _ _;have hb1:(il O).length<=100000:=by simp;omega
    by_cases hKl:K<O.length
    .have hdk:decide ((K:Int)<((il O).length:Int))=true:=by simp;omega
     have vk:=ykt hKl;have lk:K<(il O).length:=by simp;exact hKl
     by_cases he:O.getD K 0=x
     .have hde:decide (O.getD K 0=x)=true:=decide_eq_true he;rw [if_pos ⟨hKl,he⟩] at hs;(repeat' (first|refine sy ?_|(refine aZ ?_;intros)|refine w0 ?_|fail));refine⟨hlt,?_⟩;rw [hs];clear hs vk vx;exact si
     .have hde:decide (O.getD K 0=x)=false:=decide_eq_false he;rw [if_neg (λh=>he h.2)] at hs;have hs2:il (ymw l (i+1))=(([]++(il O).take K)++[[vi x]])++(il O).drop K:=by rw [hs];simp [il]
      (repeat' (first|refine uss0 ?_|refine sy ?_|(refine aZ ?_;intros)|refine w0 ?_|fail));refine⟨hlt,(ysh 3 59 rfl rfl oe).trans ?_⟩;rw [hs2];clear hs hs2 vk vx;exact si
    .have hdk:decide ((K:Int)<((il O).length:Int))=false:=by simp;omega
     rw [if_neg (λh=>hKl h.1)] at hs;have hs2:il (ymw l (i+1))=(([]++(il O).take K)++[[vi x]])++(il O).drop K:=by rw [hs];simp [il]
     (repeat' (first|refine uss0 ?_|refine sy ?_|(refine aZ ?_;intros)|refine w0 ?_|fail));refine⟨hlt,(ysh 3 59 rfl rfl oe).trans ?_⟩;rw [hs2];clear hs hs2 vx;exact si
   .intro P8 h0;have h8:∀s,Sub (cx G).G 61 s (soSt l O i K)->P8 s:=λs h=>h0 s () trivial h;clear h0;refine aB λP7 _ _ _ _=>?_;refine z2s (ι:={k:Nat // dnK O x O.length=dnK O x k/\k<=O.length}) (λk=>soSt l O i k.1) (λk=>k.1) ⟨O.length,rfl,kac _⟩ ?_ ?_
    .clear vx;exact si
    .rintro⟨k,hZ,hkl⟩;simp only at hZ hkl |-;rw [hK] at hZ;cases k with
     | zero =>
       have hdz:decide ((0:Int)<((0:Nat):Int))=false:=oe
       have hz:K=0:=hZ;subst hz;(repeat' (first|refine sy ?_|(refine aZ ?_;intros)|refine w0 ?_|fail));clear h8 vx hs;exact si
     | succ k =>
       have hdz:decide ((0:Int)<((k+1:Nat):Int))=true:=decide_eq_true oc;have q1:((k+1:Nat):Int)-1=((k:Nat):Int):=oc
       have vk:=ykt (show k<O.length by omega);have lk:k<(il O).length:=by simp;omega
       replace hZ:K=if x<=O.getD k 0 then dnK O x k else k+1:=hZ
       by_cases hle:x<=O.getD k 0
       .have hdl:decide (x<=O.getD k 0)=true:=decide_eq_true hle;rw [if_pos hle] at hZ;(repeat' (first|refine sy ?_|(refine aZ ?_;intros)|refine w0 ?_|fail));refine⟨⟨k,hK.trans hZ,oc⟩,?_,by first|omega|(simp only;omega)⟩;simp only;clear h8 vx vk hs hZ;exact si
       .have hdl:decide (x<=O.getD k 0)=false:=decide_eq_false hle;rw [if_neg hle] at hZ;subst hZ;(repeat' (first|refine sy ?_|(refine aZ ?_;intros)|refine w0 ?_|fail));clear h8 vx vk hs;exact si
  .have he:i=l.length:=oc
   subst he;have hd:decide ((l.length:Int)<((il l).length:Int))=false:=od
   (repeat' (first|refine sy ?_|(refine aZ ?_;intros)|refine w0 ?_|fail));exact hQ.go _ _ _ zcz (.inr rfl) rfl
def yuf(most:Int)(ss:List Slip)(ms:List SumR)(slip:Int):List Int:=if zcl most ss ms (ykm ss slip)=0 then yls (zql ss (zaj most ss ms) slip.toNat) else []
theorem css0{P G:Prop}(n:P)(h:Wr P->G:=by(intro n;first|((with_reducible apply kC);first|exact gB ⟨_,hth,.mk rfl n.p⟩|exact gB ⟨_,hop,.mk rfl n.p⟩|exact gB ⟨_,ham,.mk rfl n.p⟩|exact gB ⟨_,hst,.mk rfl n.p⟩|exact gK n.p|exact gS n.p)|exact⟨_,hth,n.p⟩|exact⟨_,hop,n.p⟩|exact⟨_,ham,n.p⟩|exact⟨_,hst,n.p⟩|exact sk n.p|exact ap n.p)):G:=h ⟨n⟩
theorem yug(most:Int)(ss:List Slip)(ms:List SumR)(slip:Int)(hn:ss.length<=20)(hm:ms.length<=20):AFn (cx G) 30 [bk most ss ms,vi slip] (.tup [.sl 1 (il (yuf most ss ms slip)),vi (zcl most ss ms (ykm ss slip))]):=by
 refine zg1 Tryz.func30 rfl Tryz.ntmps30 rfl rfl rfl (λQ hQ=>?_) rfl;have hlen:(ss.map Slip.row).length=ss.length:=od
 have hth:=zvc (G:=G) slip ((ss.map Slip.row).length:Int) oc;have hm0:0<=((ss.map Slip.row).length:Int)/\((ss.map Slip.row).length:Int)<=100000:=oc
 by_cases hl:zcl most ss ms (ykm ss slip)=0
 .obtain⟨hg,ho,hne⟩:=zk7 hl;have hV:yuf most ss ms slip=yls (zql ss (zaj most ss ms) slip.toNat):=if_pos hl;have h2:0<=slip/\slip<=(ss.length:Int)-1:=by
    unfold ykm at ho;by_cases h:0<=slip/\slip<=(ss.length:Int)-1
    .exact h
    .rw [if_neg (oa h)] at ho;cases ho
  obtain⟨k,rfl⟩:∃k:Nat,slip=(k:Int):=⟨slip.toNat,oc⟩;rw [hV,hl,kb9] at hQ;have hop:=zha (G:=G) hn hm hl;unfold ykm at hop;rw [<-hlen] at hop;have hpl:=zjl hg;have ham:=zo2 (G:=G) most ss ms (zaj most ss ms) k hn oc oc hg.slip (λp hp=>⟨(zd5 hg hp).1,(zd5 hg hp).2.1⟩);have hal:(zql ss (zaj most ss ms) k).length<=100000:=by simp [zql];omega
  have hst:=ysm (G:=G) _ hal;(repeat' (first|refine sy ?_|(refine aZ ?_;intros)|refine css0 ?_|fail));exact hQ.go _ _ _ zcz (.inr rfl) rfl
 .have hV:yuf most ss ms slip=[]:=if_neg hl;have hdl:decide (zcl most ss ms (ykm ss slip)=0)=false:=oa hl
  rw [hV] at hQ;have hop:=zhb (G:=G) hn hm hl;unfold ykm at hop hdl hQ;rw [<-hlen] at hop hdl hQ;(repeat' (first|refine sy ?_|(refine aZ ?_;intros)|refine css0 ?_|fail));exact hQ.go _ _ _ (zze 4 1 rfl) (.inr rfl) rfl
theorem yvb(most:Int)(ss:List Slip)(ms:List SumR)(slip:Int):ym3 most ss ms slip=yuf most ss ms slip:=by
 unfold ym3 yuf;rw [zjp];split
 .rename_i h;obtain⟨hg,_,_⟩:=zk7 h;rw [ynm,zg9 hg];congr 1;simp only [ybr,zql,List.map_map];refine kcn λp hp=>?_;exact zmb hg p (ziu hg hp).1.1 slip.toNat
 .rfl
end Go.Ab.J
