/- What all laws about sales rest on, beside any goroutines. Conditions: none. -/
import Derived.Test.YtfgciihkmemdlaaGreatDoorZG
namespace Go.Ab.J
open Go Go.Proofs Go.Kp
section
variable{G:zbf}{u:Nat->ByteArray}
theorem ymc{l:List Int}:∀n,¬ylg l n->∃k0,1<=k0/\k0<n/\ylg l k0/\l.getD k0 0=l.getD (k0-1) 0
 | 0,h=>absurd (λk h1 h2=>oc) h
 | n+1,h=>by
   by_cases hn:ylg l n
   .by_cases h1:1<=n/\l.getD n 0=l.getD (n-1) 0
    .exact⟨n,h1.1,oc,hn,h1.2⟩
    .refine absurd (λk h2 h3=>?_) h;rcases kae k n with h4|h4
     .exact hn k h2 h4
     .have:k=n:=oc
      subst this;exactλh5=>h1 ⟨h2,h5⟩
   .obtain⟨k0,a,b,c,d⟩:=ymc n hn;exact⟨k0,a,oc,c,d⟩
def ykm(ss:List Slip)(slip:Int):Int:=if decide (0<=slip/\slip<=(ss.length:Int)-1)=true then 0 else 6
def ym3(most:Int)(ss:List Slip)(ms:List SumR)(slip:Int):List Int:=if zbt most ss ms (ykm ss slip)=0 then cpF (ym6 (ybr most ss ms slip.toNat)) else []
attribute [local irreducible] AOp AW ADr AFn ze1 AFt AOpJ
set_option maxRecDepth 20000
set_option maxHeartbeats 8000000
theorem yo2{P G:Prop}(n:P)(h:Wr P->G:=by(intro n;first|((with_reducible apply kC);first|exact gB ⟨_,zla _ _ _ _ hn,.mk rfl n.p⟩|exact gB ⟨_,zje _,.mk rfl n.p⟩|exact gB ⟨_,hlook,.mk rfl n.p⟩|exact gB ⟨_,zhr hn hm hl,.mk rfl n.p⟩|exact gK n.p|exact gS n.p)|exact⟨_,zla _ _ _ _ hn,n.p⟩|exact⟨_,zje _,n.p⟩|exact⟨_,hlook,n.p⟩|exact⟨_,zhr hn hm hl,n.p⟩|exact sk n.p|exact ap n.p)):G:=h ⟨n⟩
theorem ymf(most:Int)(ss:List Slip)(ms:List SumR)(slip:Int)(hn:ss.length<=20)(hm:ms.length<=20):AFn (cx (zch u)) 18 [bk most ss ms,vi slip] (.tup [.sl 1 (il (ym3 most ss ms slip)),vi (zbt most ss ms (ykm ss slip))]):=by
 refine zg1 Tryz.func18 rfl Tryz.ntmps18 rfl rfl rfl (λQ hQ=>?_) rfl;by_cases hl:zbt most ss ms (ykm ss slip)=0
 .obtain⟨hg,ho,hne⟩:=zme hl;have hV:ym3 most ss ms slip=cpF (ym6 (ybr most ss ms slip.toNat)):=if_pos hl;have h2:0<=slip/\slip<=(ss.length:Int)-1:=by
    unfold ykm at ho;by_cases h:0<=slip/\slip<=(ss.length:Int)-1
    .exact h
    .rw [if_neg (oa h)] at ho;cases ho
  obtain⟨k,rfl⟩:∃k:Nat,slip=(k:Int):=⟨slip.toNat,oc⟩;have hk6:k<6:=by have:=hg.nss;omega
  rw [hV,hl,kb9] at hQ;have hlook:=zgt (u:=u) (own:=if decide (0<=(k:Int)/\(k:Int)<=(ss.length:Int)-1)=true then 0 else 6) hl;unfold opA at hlook;have hl6:=zfd hg;have hr:(amR ss (zah most ss ms)).length=(zah most ss ms).length:=od
  have hpos:0<(zah most ss ms).length:=kbn.2 hne;have hal:(ybr most ss ms k).length=(zah most ss ms).length:=by simp [ybr]
  (repeat' (first|refine sy ?_|(refine aZ ?_;intros)|refine yo2 ?_|fail));refine zbx (zbd 8 1000 1 3 rfl rfl) ?_;refine zam (zah most ss ms).length (λi=>[(2*1,.av (vi k)),(2*25,.av (.sl 6 (amR ss (zah most ss ms)))),(2*26,.av (vi ((amR ss (zah most ss ms)).length:Int))),(2*27,.av (vi i)),(2*8,.av (.own 1000)),(2*1000+1,.buf 1 3 (il ((ybr most ss ms k).take i)))]) ?_ ?_
  .exact si
  .intro i hi;rcases kae i (zah most ss ms).length with hlt|hge
   .obtain⟨x,hx⟩:∃x,(zah most ss ms)[i]?=some x:=⟨_,kaa hlt⟩;have hrow:(amR ss (zah most ss ms))[i]?=some (amL (zc0 ss x)):=by simp [hx]
    have hil:i<(amR ss (zah most ss ms)).length:=by rw [hr];exact hlt
    have hd:decide ((i:Int)<((amR ss (zah most ss ms)).length:Int))=true:=decide_eq_true oc;have hxk:=zm9 (zc0 ss x) hk6;have hb:(il ((ybr most ss ms k).take i)).length+1<=1000000000:=by simp;omega
    have hi1:vi ((i+1:Nat):Int)=vi ((i:Int)+1):=od
    have ht:(ybr most ss ms k).take (i+1)=(ybr most ss ms k).take i++[(zc0 ss x).getD k 0]:=by rw [kb8];congr 1;simp [ybr,hx]
    have ht2:il ((ybr most ss ms k).take (i+1))=il ((ybr most ss ms k).take i)++[[vi ((zc0 ss x).getD k 0)]]:=by rw [ht];simp [il]
    (repeat' (first|refine sy ?_|(refine aZ ?_;intros)|refine yo2 ?_|fail));refine⟨hlt,?_⟩;refine zbg (rn1 1000 37) ?_ rfl rfl;rw [ht2];exact sr
   .have he:i=(zah most ss ms).length:=oc
    subst he;have hd:decide (((zah most ss ms).length:Int)<((amR ss (zah most ss ms)).length:Int))=false:=decide_eq_false oc;rw [<-hal,kdl];generalize ybr most ss ms k=L at hQ hal |-;have m1:=yow (G:=zch u) L oc;obtain⟨_,_,hol⟩:=ylc L;generalize ym6 L=O at hQ m1 hol;by_cases hno:ylg O O.length
    .have m2:=ym2 (G:=zch u) O oc oc hno;have hF:cpF O=O:=(yl1 O.length (kac _) hno).trans kdl;rw [hF] at hQ;have htk:(il O).take (il O).length=il O:=kdl;rw [<-htk] at hQ
     (repeat' (first  |((with_reducible apply kC);first|refine gM (p:=[]) (ys:=[_]) (q:=[]) m1 ?_|refine gM (p:=[]) (ys:=[_]) (q:=[]) m2 ?_)|refine sy ?_|(refine aZ ?_;intros)|refine yo2 ?_|(refine s2 ?_ ?_<;>intro h7<;>try omega)));refine hQ.go _ _ _ (z9i 4 1000 3000 rfl rfl rfl oe (kac _) oy) (.inr rfl) rfl
    .obtain⟨k0,a1,a2,a3,a4⟩:=ymc _ hno;have m2:=ym1 (G:=zch u) O oc k0 a1 a2 a3 a4;have htk:(il (cpF O++List.replicate (O.length-(cpF O).length) 0)).take (cpF O).length=il (cpF O):=by
       rw [<-List.map_take,List.take_left]
     rw [<-htk] at hQ;have hcl:(cpF O).length<=O.length:=ymd O O.length;(repeat' (first  |((with_reducible apply kC);first|refine gM (p:=[]) (ys:=[_]) (q:=[]) m1 ?_|refine gM (p:=[]) (ys:=[_]) (q:=[]) m2 ?_)|refine sy ?_|(refine aZ ?_;intros)|refine yo2 ?_|(refine s2 ?_ ?_<;>intro h7<;>try omega)));refine hQ.go _ _ _ (z9i 4 1000 3000 rfl rfl rfl oe od oy) (.inr rfl) rfl
 .have hV:ym3 most ss ms slip=[]:=if_neg hl;have hdl:decide (zbt most ss ms (ykm ss slip)=0)=false:=oa hl
  rw [hV] at hQ;(repeat' (first|refine sy ?_|(refine aZ ?_;intros)|refine yo2 ?_|fail));exact hQ.go _ _ _ (zze 4 1 rfl) (.inr rfl) rfl
end
section
variable{G:zbf}{u:Nat->ByteArray}
theorem yi6{E:Env}{w:World}{most:Int}{v:Value}(h:Rep E w (.agg [vi most,.val (.slice none 0 0),.val (.slice none 0 0)]) v):Rep E w (.agg [vi most,.sl 7 [],.sl 5 []]) v:=by
 cases h with
 | agg xs us hl h =>
   refine .agg _ us hl λi x v hx hv=>?_
   match i with
   | 0=>exact h 0 x v hx hv
   | 1 =>
     obtain rfl:=(h 1 _ v rfl hv).val_eq;obtain rfl:AV.sl 7 []=x:=oa hx
     exact .nil 7
   | 2 =>
     obtain rfl:=(h 2 _ v rfl hv).val_eq;obtain rfl:AV.sl 5 []=x:=oa hx
     exact .nil 5
   | i+3=>simp at hx
attribute [local irreducible] AOp AW ADr AFn ze1 AFt AOpJ
set_option maxRecDepth 20000
set_option maxHeartbeats 8000000
theorem eyh2{G:Prop}(h:G:=by((repeat' (first|refine g1 ?_ om ⟨yh9 (yh3 z) yh4 oe rfl rfl,yh8 (yh2 z) rfl rfl rfl⟩|refine g1 ?_ om ⟨yh9 (yh6 z2) yh7 oe rfl rfl,yh8 (yh5 z2) rfl rfl rfl⟩|refine sy ?_|(refine aZ ?_;intros)|refine w0 ?_|fail));refine⟨hlt,?_⟩;exact si)):G:=h
theorem yi2(most:Int)(ss:List Slip)(ms:List SumR)(hn:ss.length<=20)(hm:ms.length<=20):AFn (cx G) 10 [bk most ss ms,bk most ss ms] (vb true):=by
 refine aby Tryz.func10 Tryz.ntmps10 λQ hQ=>?_;have hb1:(!decide (most=most))=false:=od
 have hb2:(!decide (((ss.map Slip.row).length:Int)=((ss.map Slip.row).length:Int)))=false:=od
 have hb3:(!decide (((ms.map SumR.row).length:Int)=((ms.map SumR.row).length:Int)))=false:=od
 have hb4:decide (most=most)=true:=od
 have hb5:decide (((ss.map Slip.row).length:Int)=((ss.map Slip.row).length:Int))=true:=od
 have hb6:decide (((ms.map SumR.row).length:Int)=((ms.map SumR.row).length:Int))=true:=od
 have z:Slip:=d7;have z2:SumR:=d5;(repeat' (first|refine sy ?_|(refine aZ ?_;intros)|refine w0 ?_|fail));refine zam ss.length (λi=>[(2*2,.av (.ptr 2 0)),(2*2+1,.cells 25 [vi most,.sl 7 (ss.map Slip.row),.sl 5 (ms.map SumR.row)]),(2*3,.av (.ptr 3 0)),(2*3+1,.cells 25 [vi most,.sl 7 (ss.map Slip.row),.sl 5 (ms.map SumR.row)]),(2*5,.av (vi i))]) ?_ ?_
 .exact si
 .intro i hi;rcases kae i ss.length with hlt|hge
  .clear z;obtain⟨z,hz⟩:∃z,ss[i]?=some z:=⟨_,kaa hlt⟩;have hrow:(ss.map Slip.row)[i]?=some z.row:=by simp [hz]
   have hil:i<(ss.map Slip.row).length:=oa hlt
   have hd:decide ((i:Int)<((ss.map Slip.row).length:Int))=true:=by simp;omega
   have hi1:vi ((i+1:Nat):Int)=vi ((i:Int)+1):=od
   exact eyh2
  .have he:i=ss.length:=oc
   subst he;have hd:decide ((ss.length:Int)<((ss.map Slip.row).length:Int))=false:=od
   (repeat' (first|refine sy ?_|(refine aZ ?_;intros)|refine w0 ?_|fail));refine zam ms.length (λi=>[(2*2,.av (.ptr 2 0)),(2*2+1,.cells 25 [vi most,.sl 7 (ss.map Slip.row),.sl 5 (ms.map SumR.row)]),(2*3,.av (.ptr 3 0)),(2*3+1,.cells 25 [vi most,.sl 7 (ss.map Slip.row),.sl 5 (ms.map SumR.row)]),(2*6,.av (vi i))]) ?_ ?_
   .exact si
   .intro i hi;rcases kae i ms.length with hlt|hge
    .clear z2;obtain⟨z2,hz⟩:∃z,ms[i]?=some z:=⟨_,kaa hlt⟩;have hrow:(ms.map SumR.row)[i]?=some z2.row:=by simp [hz]
     have hil:i<(ms.map SumR.row).length:=oa hlt
     have hd:decide ((i:Int)<((ms.map SumR.row).length:Int))=true:=by simp;omega
     have hi1:vi ((i+1:Nat):Int)=vi ((i:Int)+1):=od
     exact eyh2
    .have he:i=ms.length:=oc
     subst he;have hd:decide ((ms.length:Int)<((ms.map SumR.row).length:Int))=false:=od
     (repeat' (first|refine sy ?_|(refine aZ ?_;intros)|refine w0 ?_|fail));refine fe ?_;rfl
end
end Go.Ab.J
