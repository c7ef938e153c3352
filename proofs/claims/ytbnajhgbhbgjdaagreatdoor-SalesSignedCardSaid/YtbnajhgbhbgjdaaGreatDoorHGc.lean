/- Pieces of a law about sales. Conditions: none. -/
import Derived.Test.YtbnajhgbhbgjdaaGreatDoorHGb
import Derived.LaidHandle
import Derived.LaidMore
import Derived.OpenShut
import Derived.Sort.AssemblyPlain
import Derived.Sort.LotD4
import Derived.Sort.LotD5
import Derived.Test.YtbnajhgbhbgjdaaGreatDoorCards
import Derived.Test.YtbnajhgbhbgjdaaGreatDoorRows
import Derived.Test.YtbnajhgbhbgjdaaGreatDoorTie
namespace Go.Ab.J
open Go Go.Proofs Go.Kp
section
variable{G:zbf}{u:Nat->ByteArray}
attribute [local irreducible] AOp AW ADr AFn ze1 AFt AOpJ
set_option maxRecDepth 20000
set_option maxHeartbeats 8000000
theorem ykq{most:Int}{ss:List Slip}{ms:List SumR}{own:Int}(h:zbt most ss ms 0=0)(ho:own=0):zbt most ss ms own=0:=by rw [ho];exact h
theorem ylp{most:Int}{ss:List Slip}{ms:List SumR}(h:zbt most ss ms 0=0):zak most ss ms=0:=by obtain⟨hg,_,_⟩:=zme h;exact(za2 most ss ms).2 hg
structure ynu(most:Int)(ss:List Slip)(ms:List SumR)(most':Int)(ss':List Slip)(ms':List SumR)(slip kind:Int):Prop where
 l1:zbt most ss ms 0=0
 l2:zbt most' ss' ms' 0=0
 len:ss.length<=ss'.length
 num:(zah most' ss' ms').length<=(zah most ss ms).length
 lo:(zyr most ss ms (yki kind) (ykj kind)).1.1<=(zyr most' ss' ms' (yki kind) (ykj kind)).1.1
 hi:(zyr most' ss' ms' (yki kind) (ykj kind)).1.2<=(zyr most ss ms (yki kind) (ykj kind)).1.2
 lh:(zyr most' ss' ms' (yki kind) (ykj kind)).1.1<=(zyr most' ss' ms' (yki kind) (ykj kind)).1.2
 am:∀x∈ym3 most' ss' ms' (slip % (ss.length:Int)),x∈ym3 most ss ms (slip % (ss.length:Int))
theorem ymt{most:Int}{ss:List Slip}{ms:List SumR}(hg:Good most ss ms)(k:Int):(ym3 most ss ms k).length<=100000:=by
 unfold ym3;split
 .have h1:=ymd (ym6 (ybr most ss ms k.toNat)) (ym6 (ybr most ss ms k.toNat)).length;have h2:=(ylc (ybr most ss ms k.toNat)).2.2;have h3:(ybr most ss ms k.toNat).length=(zah most ss ms).length:=by simp [ybr]
  have h4:=zfd hg;show(cpU _ _).length<=_;omega
 .simp
theorem cyv0{P G:Prop}(n:P)(h:Wr P->G:=by(intro n;first|((with_reducible apply kC);first|exact gB ⟨_,hw,.mk rfl n.p⟩|exact gB ⟨_,hh1,.mk rfl n.p⟩|exact gB ⟨_,hh2,.mk rfl n.p⟩|exact gB ⟨_,hs1,.mk rfl n.p⟩|exact gB ⟨_,hs2,.mk rfl n.p⟩|exact gB ⟨_,zv8 _ _ _,.mk rfl n.p⟩|exact gB ⟨_,ha1,.mk rfl n.p⟩|exact gB ⟨_,ha2,.mk rfl n.p⟩|exact gB ⟨_,hha,.mk rfl n.p⟩|exact gK n.p|exact gS n.p)|exact⟨_,hw,n.p⟩|exact⟨_,hh1,n.p⟩|exact⟨_,hh2,n.p⟩|exact⟨_,hs1,n.p⟩|exact⟨_,hs2,n.p⟩|exact⟨_,zv8 _ _ _,n.p⟩|exact⟨_,ha1,n.p⟩|exact⟨_,ha2,n.p⟩|exact⟨_,hha,n.p⟩|exact sk n.p|exact ap n.p)):G:=h ⟨n⟩
theorem eyv1{G:Prop}(h:G:=by((repeat' (first  |refine sy ?_|(refine aZ ?_;intros)|refine cyv0 ?_|(refine s2 ?_ ?_<;>intro h7<;>try omega)));exact hQ.go _ _ _ zcz (.inr rfl) rfl)):G:=h
theorem ymy{most most':Int}{ss ss':List Slip}{ms ms':List SumR}{slip kind:Int}(hs0:0<=slip)(hs1:slip<256)(hk0:0<=kind)(hk1:kind<256)(hn:ss.length<=20)(hm:ms.length<=20)(hn':ss'.length<=20)(hm':ms'.length<=20)(h:ynu most ss ms most' ss' ms' slip kind) :
  AFn (cx (zch u)) 26 [bk most ss ms,bk most' ss' ms',.val (.int .u8 slip),.val (.int .u8 kind)] (vb true):=by
 refine zg1 Tryz.func26 rfl Tryz.ntmps26 rfl rfl rfl (λQ hQ=>?_) rfl
 obtain⟨l1,l2,hlen,hnum,hlo,hhi,hlh,ham⟩:=h
 obtain⟨hg,_,hne⟩:=zme l1
 obtain⟨hg',_,hne'⟩:=zme l2
 have hw:=whatL_a (G:=zch u) kind hk0 hk1
 have hwo:=what_ok hk0
 have hh1:=zkg (u:=u) most ss ms hn hm
 have hh2:=zkg (u:=u) most' ss' ms' hn' hm'
 have e1:zr3 most ss ms=(((zah most ss ms).length:Int),0):=by rw [zr3,if_neg (by simp [ylp l1])]
 have e2:zr3 most' ss' ms'=(((zah most' ss' ms').length:Int),0):=by rw [zr3,if_neg (by simp [ylp l2])]
 rw [e1] at hh1
 rw [e2] at hh2
 have hs1:=sum_a (u:=u) most ss ms (yki kind) (ykj kind) hn hm
 have hs2:=sum_a (u:=u) most' ss' ms' (yki kind) (ykj kind) hn' hm'
 have f1:(zyr most ss ms (yki kind) (ykj kind)).2=0:=by rw [zyr,if_neg (by simp [ykq l1 hwo])]
 have f2:(zyr most' ss' ms' (yki kind) (ykj kind)).2=0:=by rw [zyr,if_neg (by simp [ykq l2 hwo])]
 rw [f1] at hs1
 rw [f2] at hs2
 clear f1 f2 e1 e2 hwo
 generalize yki kind=K at *
 generalize ykj kind=A at *
 generalize (zyr most ss ms K A).1=X at *
 generalize (zyr most' ss' ms' K A).1=Y at *
 have hpos:0<(zah most' ss' ms').length:=kbn.2 hne'
 generalize (zah most ss ms).length=n1 at *
 generalize (zah most' ss' ms').length=n2 at *
 have hd1:(!decide ((1:Int)<=(n2:Int)/\(n2:Int)<=(n1:Int)))=false:=by simp;omega
 have hd2:decide (Y.1<X.1)=false:=by simp;omega
 have hd3:decide (X.2<Y.2)=false:=by simp;omega
 have hd4:decide (Y.2<Y.1)=false:=by simp;omega
 by_cases h0:ss.length=0
 .have hd0:decide (((ss.map Slip.row).length:Int)=0)=true:=oa h0
  exact eyv1
 .have hd0:decide (((ss.map Slip.row).length:Int)=0)=false:=oa h0
  have hL:((ss.map Slip.row).length:Int)=(ss.length:Int):=od
  have hi:0<=slip % (ss.length:Int)/\slip % (ss.length:Int)<(ss.length:Int):=⟨Int.emod_nonneg _ oc,Int.emod_lt_of_pos _ oc⟩;have ha1:=ymf (u:=u) most ss ms (slip % (ss.length:Int)) hn hm;have ha2:=ymf (u:=u) most' ss' ms' (slip % (ss.length:Int)) hn' hm';have o1:zbt most ss ms (ykm ss (slip % (ss.length:Int)))=0:=ykq l1 (if_pos oy)
  have o2:zbt most' ss' ms' (ykm ss' (slip % (ss.length:Int)))=0:=ykq l2 (if_pos oy);rw [o1,<-hL] at ha1;rw [o2,<-hL] at ha2;have hul:=ymt hg (slip % (ss.length:Int));have hvl:=ymt hg' (slip % (ss.length:Int));rw [<-hL] at hul hvl ham;clear o1 o2;generalize ym3 most ss ms (slip % ((ss.map Slip.row).length:Int))=U at *
  generalize ym3 most' ss' ms' (slip % ((ss.map Slip.row).length:Int))=V at *;have hp0:0<=slip/\0<((ss.map Slip.row).length:Int):=by simp;omega
  (repeat' (first  |refine sy ?_|(refine aZ ?_;intros)|refine cyv0 ?_|(refine s2 ?_ ?_<;>intro h7<;>try omega)));refine zam V.length (λj=>[(2*20,.av (.sl 1 (il U))),(2*22,.av (.sl 1 (il V))),(2*24,.av (vi j))]) ?_ ?_
  .exact si
  .intro j hj;rcases kae j V.length with hlt|hge
   .have hd:decide ((j:Int)<((il V).length:Int))=true:=by simp;omega
    have hj1:vi ((j+1:Nat):Int)=vi ((j:Int)+1):=od
    have vj:=ykt hlt;have lj:j<(il V).length:=by simp;exact hlt
    have hin:decide (V.getD j 0∈U)=true:=by
     have:V.getD j 0∈V:=by rw [ylf hlt];exact kbf _
     exact decide_eq_true (ham _ this)
    have hha:=hasR_a (G:=zch u) U (V.getD j 0) hul;rw [hin] at hha;(repeat' (first|refine sy ?_|(refine aZ ?_;intros)|refine cyv0 ?_|fail));refine⟨hlt,?_⟩;exact si
   .have he:j=V.length:=oc
    subst he;have hd:decide ((V.length:Int)<((il V).length:Int))=false:=od
    exact eyv1
end
theorem yk3(f:Nat->Int):∀n,0<n->(∀i,i<n->(zh2 f n).1<=f i/\f i<=(zh2 f n).2)/\(∃i,i<n/\f i=(zh2 f n).1)/\∃i,i<n/\f i=(zh2 f n).2
 | 0,h=>absurd h oc
 | 1,_=>by
   have e1:(zh2 f 1).1=f 0:=by simp [zh2]
   have e2:(zh2 f 1).2=f 0:=by simp [zh2]
   rw [e1,e2];exact⟨λi hi=>by obtain rfl:i=0:=(oc);exact⟨kek _,kek _⟩,⟨0,oc,rfl⟩,⟨0,oc,rfl⟩⟩
 | n+2,_=>by
   obtain⟨h1,⟨i,hi,ei⟩,⟨j,hj,ej⟩⟩:=yk3 f (n+1) oc;have e1:(zh2 f (n+2)).1=min (zh2 f (n+1)).1 (f (n+1)):=rfl;have e2:(zh2 f (n+2)).2=max (zh2 f (n+1)).2 (f (n+1)):=rfl;rw [e1,e2];refine⟨λk hk=>?_,?_,?_⟩
   .rcases kae k (n+1) with hk2|hk2
    .have:=h1 k hk2;omega
    .obtain rfl:k=n+1:=oc
     omega
   .rcases Int.le_total (zh2 f (n+1)).1 (f (n+1)) with hl|hl
    .exact⟨i,oc,oc⟩
    .exact⟨n+1,oc,oc⟩
   .rcases Int.le_total (zh2 f (n+1)).2 (f (n+1)) with hl|hl
    .exact⟨n+1,oc,oc⟩
    .exact⟨j,oc,oc⟩
theorem ynq{most:Int}{ss:List Slip}{ms:List SumR}{k:Int}(h:zbt most ss ms (ykm ss k)=0)(x:Int):x∈ym3 most ss ms k↔∃p∈zah most ss ms,(zc0 ss p).getD k.toNat 0=x:=by unfold ym3;rw [if_pos h,ynm,(yk7 _).2 x];simp [ybr]
theorem yk9{ss ss':List Slip}{am am':List Int}(h:∀i k a,(ss'.getD i d7).part k a=(ss.getD i d7).part k a)(hn:∀j,am'.getD j 0=am.getD j 0)(k:Nat)(a:Int)(n:Nat):zbo ss' am' k a n=zbo ss am k a n:=by unfold zbo;congr 1;refine kcn λi _=>?_;rw [hn i];congr 1;exact h i k a
theorem ynf{most most':Int}{ss ss':List Slip}{ms ms':List SumR}{slip kind:Int}(hs0:0<=slip)(hk0:0<=kind)(l1:zbt most ss ms 0=0)(l2:zbt most' ss' ms' 0=0)(hlen:ss'.length=ss.length)(hnum:(zah most' ss' ms').length<=(zah most ss ms).length)
  (hpart:∀i k a,(ss'.getD i d7).part k a=(ss.getD i d7).part k a) (hrel:∀p∈zah most' ss' ms',∃q∈zah most ss ms,∀j,(zc0 ss' p).getD j 0=(zc0 ss q).getD j 0):ynu most ss ms most' ss' ms' slip kind:=by
 have hwo:=what_ok hk0
 obtain⟨hg,_,hne⟩:=zme l1
 obtain⟨hg',_,hne'⟩:=zme l2
 have hp:0<(zah most ss ms).length:=kbn.2 hne
 have hp':0<(zah most' ss' ms').length:=kbn.2 hne'
 generalize hK:yki kind=K at hwo
 generalize hA:ykj kind=A at hwo
 have f1:(zyr most ss ms K A).1=zh2 (zzd most ss ms K A) (zah most ss ms).length:=by rw [zyr,if_neg (by simp [ykq l1 hwo])]
 have f2:(zyr most' ss' ms' K A).1=zh2 (zzd most' ss' ms' K A) (zah most' ss' ms').length:=by rw [zyr,if_neg (by simp [ykq l2 hwo])]
 obtain⟨a1,_,_⟩:=yk3 (zzd most ss ms K A) _ hp
 obtain⟨b1,⟨i,hi,ei⟩,⟨j,hj,ej⟩⟩:=yk3 (zzd most' ss' ms' K A) _ hp'
 have hmap:∀i,i<(zah most' ss' ms').length->∃j,j<(zah most ss ms).length/\zzd most' ss' ms' K A i=zzd most ss ms K A j:=λi hi=>by
  obtain⟨q,hq,hn⟩:=hrel _ (zv9 hi);obtain⟨j,hj,he⟩:=ked hq;refine⟨j,hj,?_⟩;have hg2:(zah most ss ms).getD j d12=q:=by simp [hj,he]
  rw [zzd,zzd,hg2,hlen];exact yk9 hpart hn _ _ _
 refine⟨l1,l2,oc,hnum,?_,?_,?_,?_⟩
 .rw [hK,hA,f1,f2,<-ei];obtain⟨j',hj',e⟩:=hmap i hi;rw [e];exact(a1 j' hj').1
 .rw [hK,hA,f1,f2,<-ej];obtain⟨j',hj',e⟩:=hmap j hj;rw [e];exact(a1 j' hj').2
 .rw [hK,hA,f2];have:=b1 0 hp';omega
 .intro x hx;have hsz:slip % (ss.length:Int)<(ss.length:Int)\/ss.length=0:=by
    rcases kbj ss.length with h|h
    .exact .inr h
    .exact .inl (Int.emod_lt_of_pos _ oc)
  by_cases h0:ss.length=0
  .have hf:ym3 most' ss' ms' (slip % (ss.length:Int))=[]:=by
     unfold ym3;have:zbt most' ss' ms' (ykm ss' (slip % (ss.length:Int)))≠0:=by intro h;obtain⟨_,ho,_⟩:=zme h;unfold ykm at ho;rw [if_neg (by simp [hlen,h0];omega)] at ho;cases ho
     rw [if_neg this]
   rw [hf] at hx;cases hx
  .have hi0:0<=slip % (ss.length:Int):=Int.emod_nonneg _ oc;have o1:zbt most ss ms (ykm ss (slip % (ss.length:Int)))=0:=ykq l1 (if_pos oy);have o2:zbt most' ss' ms' (ykm ss' (slip % (ss.length:Int)))=0:=ykq l2 (if_pos oy);rw [ynq o1];rw [ynq o2] at hx;obtain⟨p,hp,e⟩:=hx;obtain⟨q,hq,hn⟩:=hrel p hp;exact⟨q,hq,by rw [<-hn];exact e⟩
structure ykl(s' s:Slip):Prop where
 kind:s'.kind=s.kind
 dept:s'.dept=s.dept
 clerk:s'.clerk=s.clerk
 for_:s'.for_=s.for_
 lo:s.lo<=s'.lo
 hi:s'.hi<=s.hi
 yes:s'.signed≠1->s.signed≠1
 no:s'.signed≠2->s.signed≠2
theorem ykl.refl(s:Slip):ykl s s:=⟨rfl,rfl,rfl,rfl,kek _,kek _,id,id⟩
theorem ykx{α β:Type}{f g:α->List β}(h:∀x,(f x).Sublist (g x)):∀{l m:List α},l.Sublist m->(l.flatMap f).Sublist (m.flatMap g)
 | _,_,.slnil=>.slnil
 | l,_,.cons (l₂:=m) a hs=>by rw [keb];exact(ykx h hs).trans (List.sublist_append_right _ _)
 | _,_,.cons_cons (l₁:=l) (l₂:=m) a hs=>by rw [keb,keb];exact(h a).append (ykx h hs)
theorem ykn{α:Type}{p q:α->Bool}(h:∀x,p x=true->q x=true):∀{l m:List α},l.Sublist m->(l.filter p).Sublist (m.filter q)
 | _,_,.slnil=>.slnil
 | l,_,.cons (l₂:=m) a hs=>by
   rw [kdk (x:=a)];split
   .exact(ykn h hs).cons _
   .exact ykn h hs
 | _,_,.cons_cons (l₁:=l) (l₂:=m) a hs=>by
   rw [kdk,kdk];by_cases h1:p a=true
   .rw [if_pos h1,if_pos (h a h1)];exact(ykn h hs).cons_cons _
   .rw [if_neg h1];split
    .exact(ykn h hs).cons _
    .exact ykn h hs
theorem ym9{lo hi lo' hi':Int}(h1:lo<=lo')(h2:hi'<=hi):(zbr lo' hi').Sublist (zbr lo hi):=by
 by_cases h:lo'<=hi'
 .have e:zbr lo' hi'=((zbr lo hi).drop (lo'-lo).toNat).take (hi'-lo'+1).toNat:=by
    apply kc0;intro j;rw [ka5];split
    .rename_i hj;rw [kbb];simp only [zbr,kaq];rw [List.getElem?_range oc,List.getElem?_range oc];simp;omega
    .rename_i hj;simp only [zbr,kaq];rw [kay oy];rfl
  rw [e];exact(List.take_sublist _ _).trans (List.drop_sublist _ _)
 .have:zbr lo' hi'=[]:=by
    unfold zbr;rw [show(hi'-lo'+1).toNat=0 by omega];rfl
  rw [this];exact List.nil_sublist _
theorem ymj{ss' ss:List Slip}(h:∀i,ykl (ss'.getD i d7) (ss.getD i d7)):∀m i pw sg,(zks ss' m i pw sg).Sublist (zks ss m i pw sg)
 | 0,i,pw,sg=>List.Sublist.refl _
 | m+1,i,pw,sg=>by
   unfold zks;have hb:=h i;refine ykx (λn=>List.Sublist.append ?_ ?_) (ym9 hb.lo hb.hi)
   .by_cases h1:(ss'.getD i d7).signed≠1
    .rw [if_pos h1,if_pos (hb.yes h1)];exact ymj h m _ _ _
    .rw [if_neg h1];exact List.nil_sublist _
   .by_cases h1:(ss'.getD i d7).kind=5/\(ss'.getD i d7).signed≠2
    .rw [if_pos h1,if_pos ⟨hb.kind▸h1.1,hb.no h1.2⟩];exact ymj h m _ _ _
    .rw [if_neg h1];exact List.nil_sublist _
theorem yld{ss' ss:List Slip}(h:∀i,ykl (ss'.getD i d7) (ss.getD i d7))(wr:List Int)(sg:List Bool):∀n,zhq ss' wr sg n=zhq ss wr sg n
 | 0=>rfl
 | n+1=>by have hk:=(h n).kind;have hf:=(h n).for_;have ih:=yld h wr sg n;unfold zhq;simp only [ih,hk,hf]
theorem ylb{s' s:Slip}(h:ykl s' s)(k:Nat)(a:Int):s'.part k a=s.part k a:=by unfold Slip.part;rw [h.kind,h.dept,h.clerk]
theorem yk8{ss' ss:List Slip}(h:∀i,ykl (ss'.getD i d7) (ss.getD i d7))(am:List Int):∀n,zcx ss' am n=zcx ss am n
 | 0=>rfl
 | n+1=>by have hk:=(h n).kind;have hf:=(h n).for_;have ih:=yk8 h am n;unfold zcx;simp only [ih,hk,hf]
theorem yle{ss' ss:List Slip}(hl:ss'.length=ss.length)(h:∀i,ykl (ss'.getD i d7) (ss.getD i d7))(p:zd6):zc0 ss' p=zc0 ss p:=by unfold zc0;rw [hl];exact yld h _ _ _
theorem yly{ss' ss:List Slip}(hl:ss'.length=ss.length)(h:∀i,ykl (ss'.getD i d7) (ss.getD i d7))(am:List Int):zdg ss' am=zdg ss am:=by unfold zdg;rw [hl,yk8 h]
theorem yl2{ss' ss:List Slip}(hl:ss'.length=ss.length)(h:∀i,ykl (ss'.getD i d7) (ss.getD i d7))(ms:List SumR)(am:List Int):zan ss' ms am=zan ss ms am:=by unfold zan zao;congr 1;refine List.filter_congr λj _=>?_;unfold zd3;rw [hl,yk9 (λi k a=>ylb (h i) k a) (λ_=>rfl)]
theorem ym4{ss' ss:List Slip}(hl:ss'.length=ss.length)(h:∀i,ykl (ss'.getD i d7) (ss.getD i d7))(most:Int)(ms:List SumR)(p:zd6):agP most ss' ms p=agP most ss ms p:=by unfold agP zeh;rw [yle hl h,yl2 hl h,yly hl h]
theorem ykw{ss' ss:List Slip}(hl:ss'.length=ss.length)(h:∀i,ykl (ss'.getD i d7) (ss.getD i d7))(most:Int)(ms:List SumR):(zah most ss' ms).Sublist (zah most ss ms):=by unfold zah zgf;rw [hl];exact ykn (λp hp=>by rw [<-ym4 hl h];exact hp) (ymj h _ _ _ _)
theorem ylu{ss' ss:List Slip}(hl:ss'.length=ss.length)(h:∀i,ykl (ss'.getD i d7) (ss.getD i d7)){most:Int}{ms:List SumR}{slip kind:Int}(hs0:0<=slip)(hk0:0<=kind)(l1:zbt most ss ms 0=0)(l2:zbt most ss' ms 0=0):ynu most ss ms most ss' ms slip kind :=
 ynf hs0 hk0 l1 l2 hl (ykw hl h most ms).length_le (λi k a=>ylb (h i) k a) λp hp=>⟨p,(ykw hl h most ms).subset hp,λj=>by rw [yle hl h]⟩
theorem ynx{α:Type}(l:List α)(k i:Nat)(x d:α)(hk:k<l.length):(l.set k x).getD i d=if i=k then x else l.getD i d:=by
 simp only [kai];by_cases h:i=k
 .subst h;rw [kc5 hk,if_pos rfl];rfl
 .rw [kdg (Ne.symm h),if_neg h]
theorem yk5{ss:List Slip}{k:Nat}{s s':Slip}(hs:ss[k]?=some s)(hb:ykl s' s):∀i,ykl ((ss.set k s').getD i d7) (ss.getD i d7):=λi=>by
 have hk:=(kab.1 hs).1;rw [ynx _ _ _ _ _ hk];split
 .rename_i h;subst h;have:ss.getD i d7=s:=by simp [hs]
  rw [this];exact hb
 .exact ykl.refl _
theorem ylz{ss' ss:List Slip}(h:∀i,ykl (ss'.getD i d7) (ss.getD i d7))(n:Nat):zae ss' n=zae ss n:=by unfold zae;congr 1;refine List.filter_congr λj _=>?_;have:=(h j).kind;show decide ((ss'.getD j d7).kind=5)=decide ((ss.getD j d7).kind=5);rw [this]
theorem yn5{most:Int}{ss:List Slip}{ms:List SumR}{k:Nat}{s s':Slip}(hg:Good most ss ms)(hs:ss[k]?=some s)(hb:ykl s' s)(hne:s'.lo<=s'.hi)(hsg:0<=s'.signed/\s'.signed<=2)(hs0:s'.kind≠5->s'.signed=0):Good most (ss.set k s') ms:=by
 have hk:=(kab.1 hs).1;have hbs:=yk5 hs hb;refine⟨hg.most,oa hg.nss,λi t ht=>?_,?_,hg.nms,hg.sum⟩
 .have hkind:∀j,((ss.set k s').getD j d7).kind=(ss.getD j d7).kind:=λj=>(hbs j).kind;by_cases h:i=k
  .subst h;rw [kc5 hk] at ht;obtain rfl:=kaw ht
   have ho:=hg.slip i s hs;have hamt:=ho.amt;have h1:=hb.lo;have h2:=hb.hi;refine⟨by rw [hb.kind];exact ho.kind,by rw [hb.dept];exact ho.dept,by rw [hb.kind,hb.dept];exact ho.dept0,by rw [hb.clerk];exact ho.clerk,?_,?_,?_,oc,hsg,hs0⟩
   .rw [hb.kind,hb.for_,hkind];exact ho.for3
   .rw [hb.kind,hb.for_,hkind];exact ho.for5
   .rw [hb.kind,hb.for_];exact ho.fo
  .rw [kdg (Ne.symm h)] at ht;have ho:=hg.slip i t ht;exact⟨ho.kind,ho.dept,ho.dept0,ho.clerk,by rw [hkind];exact ho.for3,by rw [hkind];exact ho.for5,ho.fo,ho.amt,ho.sg,ho.sg0⟩
 .rw [kcz,ylz hbs];exact hg.fix
theorem yte{α β:Type}(P:β->Bool){f g h:α->List β}(hx:∀x,((f x).filter P).length=((g x).filter P).length+((h x).filter P).length):∀l:List α,((l.flatMap f).filter P).length=((l.flatMap g).filter P).length+((l.flatMap h).filter P).length
 | []=>rfl
 | a::l=>by have ih:=yte P hx l;have:=hx a;simp only [keb,kch,kbx];omega
theorem yth{ss:List Slip}{k:Nat}(hk:k<ss.length)(s':Slip):∀m i pw sg,k<i->zks (ss.set k s') m i pw sg=zks ss m i pw sg
 | 0,i,pw,sg,_=>rfl
 | m+1,i,pw,sg,h=>by have ih:=λpw sg=>yth hk s' m (i+1) pw sg oc;have e:=ynx ss k i s' d7 hk;rw [if_neg oc] at e;simp only [zks,e,ih]
theorem ytj{ss:List Slip}{k:Nat}{s:Slip}(hs:ss[k]?=some s)(hf:s.kind=5)(h0:s.signed=0)(P:zd6->Bool):∀m i pw sg,i<=k->k<i+m->
  ((zks ss m i pw sg).filter P).length=((zks (ss.set k (zrd true s)) m i pw sg).filter P).length+((zks (ss.set k (zrd false s)) m i pw sg).filter P).length
 | 0,i,pw,sg,h1,h2=>absurd h2 oc
 | m+1,i,pw,sg,h1,h2=>by
   have hk:=(kab.1 hs).1;have eT:=ynx ss k i (zrd true s) d7 hk;have eF:=ynx ss k i (zrd false s) d7 hk;by_cases hik:i=k
   .subst hik;rw [if_pos rfl] at eT eF;have eS:ss.getD i d7=s:=by simp [hs]
    have pT:=λpw sg=>yth hk (zrd true s) m (i+1) pw sg oc;have pF:=λpw sg=>yth hk (zrd false s) m (i+1) pw sg oc;simp only [zks,eT,eF,eS,pT,pF];refine yte P (λn=>?_) _;simp [zrd,hf,h0];omega
   .rw [if_neg hik] at eT eF;have ih:=λpw sg=>ytj hs hf h0 P m (i+1) pw sg oc oc;simp only [zks,eT,eF];refine yte P (λn=>?_) _;simp only [kch,kbx];have i1:=ih (pw.set i n) (sg.set i false);have i2:=ih (pw.set i n) (sg.set i true);split<;>split<;>(try simp only [kd0,kbv])<;>omega
theorem ytd{s:Slip}(h0:s.signed=0)(is:Bool):ykl (zrd is s) s:=⟨rfl,rfl,rfl,rfl,kek _,kek _,λ_=>oc,λ_=>oc⟩
theorem ytn{ss:List Slip}{k:Nat}{s:Slip}(hs:ss[k]?=some s)(hf:s.kind=5)(h0:s.signed=0)(most:Int)(ms:List SumR) :
  (zah most ss ms).length=(zah most (ss.set k (zrd true s)) ms).length+(zah most (ss.set k (zrd false s)) ms).length:=by
 have hk:=(kab.1 hs).1
 have aT:agP most (ss.set k (zrd true s)) ms=agP most ss ms:=funext λp=>ym4 od (yk5 hs (ytd h0 true)) most ms p
 have aF:agP most (ss.set k (zrd false s)) ms=agP most ss ms:=funext λp=>ym4 od (yk5 hs (ytd h0 false)) most ms p
 unfold zah zgf
 rw [aT,aF,kcz,kcz]
 exact ytj hs hf h0 _ _ _ _ _ oc oc
theorem ytg{ss:List Slip}{k:Nat}:∀m i pw sg,k<i->∀p∈zks ss m i pw sg,p.2.getD k false=sg.getD k false
 | 0,i,pw,sg,_,p,hp=>by simp only [zks,kcg] at hp;rw [hp]
 | m+1,i,pw,sg,h,p,hp=>by
   simp only [zks,kcq,kax] at hp;obtain⟨n,_,hp⟩:=hp;have key:∀b,(sg.set i b).getD k false=sg.getD k false:=λb=>by simp only [kai];rw [kdg oc]
   rcases hp with hp|hp
   .split at hp
    .rw [ytg m (i+1) _ _ oc p hp,key]
    .cases hp
   .split at hp
    .rw [ytg m (i+1) _ _ oc p hp,key]
    .cases hp
theorem ytm{ss:List Slip}{k:Nat}{s:Slip}{is:Bool}(hs:ss[k]?=some s)(hf:s.kind=5)(h0:s.signed=if is then 1 else 2):∀m i pw sg,i<=k->k<i+m->k<sg.length->∀p∈zks ss m i pw sg,p.2.getD k false=is
 | 0,i,pw,sg,h1,h2,_,p,hp=>absurd h2 oc
 | m+1,i,pw,sg,h1,h2,h3,p,hp=>by
   simp only [zks,kcq,kax] at hp;obtain⟨n,_,hp⟩:=hp;by_cases hik:i=k
   .subst hik;have eS:ss.getD i d7=s:=by simp [hs]
    have key:∀b,(sg.set i b).getD i false=b:=λb=>by simp only [kai];rw [kc5 h3];rfl
    rcases hp with hp|hp
    .split at hp
     .rename_i hh;rw [ytg m (i+1) _ _ oc p hp,key];rw [eS,h0] at hh;cases is
      .rfl
      .exact absurd rfl hh
     .cases hp
    .split at hp
     .rename_i hh;rw [ytg m (i+1) _ _ oc p hp,key];rw [eS,h0] at hh;cases is
      .exact absurd rfl hh.2
      .rfl
     .cases hp
   .rcases hp with hp|hp
    .split at hp
     .exact ytm hs hf h0 m (i+1) _ _ oc oc (oa h3) p hp
     .cases hp
    .split at hp
     .exact ytm hs hf h0 m (i+1) _ _ oc oc (oa h3) p hp
     .cases hp
theorem ytv{most:Int}{ss:List Slip}{ms:List SumR}{k:Nat}{s:Slip}{is:Bool}(hk6:k<6)(hs:ss[k]?=some s)(hf:s.kind=5)(h0:s.signed=if is then 1 else 2):∀p∈zah most ss ms,p.2.getD k false=is:=λp hp=>by have hk:=(kab.1 hs).1;exact ytm hs hf h0 ss.length 0 _ _ oc oc (oa hk6) p (kbw.1 hp).1
theorem ytk{p:Nat->Bool}:∀n,(∀i,i<n->p i=false)->zcg p n=0
 | 0,_=>rfl
 | n+1,h=>by rw [zcg,h n oc];exact ytk n λi hi=>h i oc
theorem ytl{p:Nat->Bool}:∀n,(∀i,i<n->p i=true)->zcg p n=n
 | 0,_=>rfl
 | n+1,h=>by rw [zcg,h n oc,if_pos rfl,ytl n λi hi=>h i oc]
theorem yti{most:Int}{ss:List Slip}{ms:List SumR}{k:Nat}{s:Slip}{is:Bool}(hk6:k<6)(hs:ss[k]?=some s)(hf:s.kind=5)(h0:s.signed=if is then 1 else 2)(hl:zbt most ss ms 0=0):zh4 most ss ms (k:Int)=(if is then 1 else 2,0):=by
 have hk:=(kab.1 hs).1;have hfx:zmj ss (k:Int)=true:=by simp [zmj,hs,hf];omega
 have ho:zob ss (k:Int)=0:=by rw [zob,if_pos hfx]
 obtain⟨_,_,hne⟩:=zme hl;have hpos:0<(zah most ss ms).length:=kbn.2 hne;have hall:=ytv (most:=most) (ms:=ms) hk6 hs hf h0;rw [zh4,ho,if_neg (by simp [hl])];have hp:∀i,i<(zah most ss ms).length->zzt most ss ms (k:Int).toNat i=is:=λi hi=>by have:=hall _ (zv9 hi);simpa [zzt] using this
 cases is
 .rw [ytk _ hp];simp [zpe]
 .rw [ytl _ hp,zpe,if_neg oc,if_pos rfl];rfl
section
variable{G:zbf}
theorem yh1{t:TypeId}(hu:Tryz.prog.underlying t=some (.int .i64))(xs:Array Value)(off:Nat)(v:Value)(h:xs[off]?=some v)(w:World):(part t xs off).run Tryz.prog w=.ok v w:=by simp [part,isAgg,run_underlying hu,h]
theorem yio{t:TypeId}(hu:Tryz.prog.underlying t=some .bool)(xs:Array Value)(off:Nat)(v:Value)(h:xs[off]?=some v)(w:World):(part t xs off).run Tryz.prog w=.ok v w:=by simp [part,isAgg,run_underlying hu,h]
theorem yi0:(Tryz.prog.info? 37).map (·.size)=some 2:=by kernel_rfl
theorem yib(xs ys:Array Value)(off:Nat)(h:xs.extract off (off+2)=ys)(w:World):(part 37 xs off).run Tryz.prog w=.ok (.agg ys) w:=by
 obtain⟨i,hi,hs⟩:∃i,Tryz.prog.info? 37=some i/\i.size=2:=by
  have:=yi0;cases h:Tryz.prog.info? 37 with
  | none=>rw [h] at this;cases this
  | some i=>rw [h] at this;exact⟨i,rfl,oa this⟩
 simp [part,isAgg,run_underlying z32,sizeOf,typeInfo,hi,hs,go_sem,h]
theorem yic(d:Nat)(a b:Int)(w:World):(Op.equalIn (d+2) 37 (.agg #[.int .i64 a,.int .i64 b]) (.agg #[.int .i64 a,.int .i64 b])).run Tryz.prog w=.ok true w:=by
 rw [run_equalIn_struct w (d+1) _ _ _ z32 z4d];have hf:=z1w;generalize (Tryz.prog.fieldsOf 37).toList=fs at hf;obtain⟨f,g,rfl⟩:∃f g,fs=[f,g]:=z00 (by have:=congrArg List.length hf;simpa using this);simp only [kbq,kej,kc8,Prod.mk.injEq,and_true] at hf;obtain⟨⟨h1,h2,h3⟩,h4,h5,h6⟩:=hf;have hn : f.name ≠ "_" := by rw [h1]; decide
 have hm : g.name ≠ "_" := by rw [h4]; decide
 have p0:∀w,(part 3 #[Value.int .i64 a,Value.int .i64 b] 0).run Tryz.prog w=.ok (.int .i64 a) w:=λw=>zdu _ _ _ rfl w;have p1:∀w,(part 3 #[Value.int .i64 a,Value.int .i64 b] 1).run Tryz.prog w=.ok (.int .i64 b) w:=λw=>zdu _ _ _ rfl w;simp [Op.eqFields,if_pos hn,if_pos hm,h2,h3,h5,h6,Sem.run_bind,p0,p1,Result.andThen_ok,run_equalIn_int w _ _ _ _ _ _ under_int]
theorem yip : (Tryz.prog.fieldsOf 63).toList.map (λf => (f.name, f.type, f.offset)) = [("Kind", 61, 0), ("Dept", 3, 1), ("Clerk", 3, 2), ("For", 3, 3), ("Amount", 37, 4), ("Signed", 53, 6)] := by kernel_rfl
theorem yit : (Tryz.prog.fieldsOf 117).toList.map (λf => (f.name, f.type, f.offset)) = [("Kind", 30, 0), ("A", 3, 1), ("Many", 37, 2), ("Firm", 4, 4)] := by kernel_rfl
theorem yin:Tryz.prog.stoodInHeld 63=false:=by kernel_rfl
theorem yis:Tryz.prog.stoodInHeld 117=false:=by kernel_rfl
theorem yh4:Tryz.prog.eqGuardType Tryz.prog.depth 63=false:=by kernel_rfl
theorem yh7:Tryz.prog.eqGuardType Tryz.prog.depth 117=false:=by kernel_rfl
theorem yi1{α:Type}:∀{l:List α},l.length=4->∃a b c d,l=[a,b,c,d]
 | [a,b,c,d],_=>⟨a,b,c,d,rfl⟩
theorem yi5{α:Type}:∀{l:List α},l.length=6->∃a b c d e f,l=[a,b,c,d,e,f]
 | [a,b,c,d,e,f],_=>⟨a,b,c,d,e,f,rfl⟩
theorem yh3(s:Slip)(w:World):(Op.equal 63 (.agg (zq9 s).toArray) (.agg (zq9 s).toArray)).run Tryz.prog w=.ok true w:=by
 show(Op.equalIn (9999+1) _ _ _).run _ _=_;rw [run_equalIn_struct w 9999 _ _ _ ycw yin];have hf:=yip;generalize (Tryz.prog.fieldsOf 63).toList=fs at hf;obtain⟨f0,f1,f2,f3,f4,f5,rfl⟩:∃a b c d e f,fs=[a,b,c,d,e,f]:=yi5 (by have:=congrArg List.length hf;simpa using this);simp only [kbq,kej,kc8,Prod.mk.injEq,and_true] at hf;obtain⟨⟨a0,b0,c0⟩,⟨a1,b1,c1⟩,⟨a2,b2,c2⟩,⟨a3,b3,c3⟩,⟨a4,b4,c4⟩,a5,b5,c5⟩:=hf
 have n0 : f0.name ≠ "_" := by rw [a0]; decide
 have n1 : f1.name ≠ "_" := by rw [a1]; decide
 have n2 : f2.name ≠ "_" := by rw [a2]; decide
 have n3 : f3.name ≠ "_" := by rw [a3]; decide
 have n4 : f4.name ≠ "_" := by rw [a4]; decide
 have n5 : f5.name ≠ "_" := by rw [a5]; decide
 have p0:∀w,(part 61 (zq9 s).toArray 0).run Tryz.prog w=.ok (.int .i64 s.kind) w:=λw=>yh1 ycy _ _ _ rfl w;have p1:∀w,(part 3 (zq9 s).toArray 1).run Tryz.prog w=.ok (.int .i64 s.dept) w:=λw=>yh1 zjd _ _ _ rfl w;have p2:∀w,(part 3 (zq9 s).toArray 2).run Tryz.prog w=.ok (.int .i64 s.clerk) w:=λw=>yh1 zjd _ _ _ rfl w
 have p3:∀w,(part 3 (zq9 s).toArray 3).run Tryz.prog w=.ok (.int .i64 s.for_) w:=λw=>yh1 zjd _ _ _ rfl w;have p4:∀w,(part 37 (zq9 s).toArray 4).run Tryz.prog w=.ok (.agg #[.int .i64 s.lo,.int .i64 s.hi]) w:=λw=>yib _ _ _ rfl w;have p5:∀w,(part 53 (zq9 s).toArray 6).run Tryz.prog w=.ok (.int .i64 s.signed) w:=λw=>yh1 yct _ _ _ rfl w;have e4:=λw=>yic 9997 s.lo s.hi w
 simp only [Nat.reduceAdd] at e4;simp [Op.eqFields,if_pos n0,if_pos n1,if_pos n2,if_pos n3,if_pos n4,if_pos n5,b0,c0,b1,c1,b2,c2,b3,c3,b4,c4,b5,c5,Sem.run_bind,p0,p1,p2,p3,p4,p5,e4,Result.andThen_ok,run_equalIn_int w _ _ _ _ _ _ zjd,run_equalIn_int w _ _ _ _ _ _ ycy,run_equalIn_int w _ _ _ _ _ _ yct]
theorem yh6(m:SumR)(w:World):(Op.equal 117 (.agg (z7m m).toArray) (.agg (z7m m).toArray)).run Tryz.prog w=.ok true w:=by
 show(Op.equalIn (9999+1) _ _ _).run _ _=_;rw [run_equalIn_struct w 9999 _ _ _ u_sum yis];have hf:=yit;generalize (Tryz.prog.fieldsOf 117).toList=fs at hf;obtain⟨f0,f1,f2,f3,rfl⟩:∃a b c d,fs=[a,b,c,d]:=yi1 (by have:=congrArg List.length hf;simpa using this);simp only [kbq,kej,kc8,Prod.mk.injEq,and_true] at hf;obtain⟨⟨a0,b0,c0⟩,⟨a1,b1,c1⟩,⟨a2,b2,c2⟩,a3,b3,c3⟩:=hf
 have n0 : f0.name ≠ "_" := by rw [a0]; decide
 have n1 : f1.name ≠ "_" := by rw [a1]; decide
 have n2 : f2.name ≠ "_" := by rw [a2]; decide
 have n3 : f3.name ≠ "_" := by rw [a3]; decide
 have p0:∀w,(part 30 (z7m m).toArray 0).run Tryz.prog w=.ok (.int .i64 m.kind) w:=λw=>yh1 u_sk _ _ _ rfl w;have p1:∀w,(part 3 (z7m m).toArray 1).run Tryz.prog w=.ok (.int .i64 m.a) w:=λw=>yh1 zjd _ _ _ rfl w;have p2:∀w,(part 37 (z7m m).toArray 2).run Tryz.prog w=.ok (.agg #[.int .i64 m.lo,.int .i64 m.hi]) w:=λw=>yib _ _ _ rfl w
 have p3:∀w,(part 4 (z7m m).toArray 4).run Tryz.prog w=.ok (.bool m.firm) w:=λw=>yio z7g _ _ _ rfl w;have e4:=λw=>yic 9997 m.lo m.hi w;simp only [Nat.reduceAdd] at e4
 simp [Op.eqFields,if_pos n0,if_pos n1,if_pos n2,if_pos n3,b0,c0,b1,c1,b2,c2,b3,c3,Sem.run_bind,p0,p1,p2,p3,e4,Result.andThen_ok,run_equalIn_int w _ _ _ _ _ _ zjd,run_equalIn_int w _ _ _ _ _ _ u_sk,run_equalIn_bool' w _ _ _ _ z7g]
theorem yia{E:Env}{w:World}(vs:List Value){v:Value}(h:Rep E w (.agg (vs.map .val)) v):v=.agg vs.toArray:=by
 cases h with
 | agg xs us hl h =>
   congr 1;have e:us=vs:=by
    refine kc0 λi=>?_;rcases kae i vs.length with hi|hi
    .have h1:(vs.map AV.val)[i]?=some (.val vs[i]):=by simp [hi]
     have hu:i<us.length:=by rw [<-hl];simpa using hi
     have:=(h i _ us[i] h1 (kaa hu)).val_eq;rw [kaa hu,kaa hi,this]
    .rw [kay hi,kay (by rw [<-hl];simpa using hi)]
   rw [e]
theorem yh2(s:Slip):∀v∈zq9 s,za3 v:=λv hv=>by simp only [zq9,kat,kb2,or_false] at hv;rcases hv with rfl|rfl|rfl|rfl|rfl|rfl|rfl<;>constructor
theorem yh5(m:SumR):∀v∈z7m m,za3 v:=λv hv=>by simp only [z7m,kat,kb2,or_false] at hv;rcases hv with rfl|rfl|rfl|rfl|rfl<;>constructor
section
variable{s:AS}{N:Nat}{x y:Operand}{T t' ty:TypeId}{pos:String}{af:Array Edge}{g:Option (Nat×Bool)}{vs:List Value}
theorem yh9{d:Nat}(heq:∀w,(Op.equal T (.agg vs.toArray) (.agg vs.toArray)).run Tryz.prog w=.ok true w)(hgd:Tryz.prog.eqGuardType Tryz.prog.depth T=false)(hd:d<N)(hx:ev s x=some (.agg (vs.map .val)))(hy:ev s y=some (.agg (vs.map .val))) :
  AOp (cx G) N ⟨some d,.binOp .neq T x y t',ty,pos,af,g⟩ (rds x++rds y) s [(2*d,.av (vb false))] :=
 zau hd λw0 E s' a w hR hr=>by have e1:=yia vs (hr.ev (zat hR (λ_ h=>by simp [h]) hx));have e2:=yia vs (hr.ev (zat hR (λ_ h=>by simp [h]) hy));refine⟨.bool false,?_,.val _,by simp [AV.ids]⟩;have hP:(cx G).P=Tryz.prog:=rfl;simp [execOp,e1,e2,eqGuard,binOp,heq,hP,hgd]
theorem yh8{d:Option Nat}{R:List Nat}(hpl:∀v∈vs,za3 v)(hx:ev s x=some (.agg (vs.map .val)))(hy:ev s y=some (.agg (vs.map .val)))(hs:zly (rds x++rds y) R=true) :
  AFt (cx G) ⟨d,.binOp .neq T x y t',ty,pos,af,g⟩ R s:=λN w0 E s' a w hR hr=>by
 have hR:=agr hR hs
 have e1:=yia vs (hr.ev ((zas λr h=>hR r om).trans hx))
 have e2:=yia vs (hr.ev ((zas λr h=>hR r om).trans hy))
 have h0:za3 (.agg vs.toArray):=.agg _ λv hv=>hpl v (oa hv)
 have h1:za3 (a.eval x):=by rw [e1];exact h0
 have h2:za3 (a.eval y):=by rw [e2];exact h0
 refine zjc ?_
 rw [ft_bind];exact zoo _ _ _ _ _ _ h1 h2 (zwe _ _ _ _ h1 h2 λ_=>trivial)
end
end
section
variable{G:zbf}{u:Nat->ByteArray}
theorem yi6{E:Env}{w:World}{most:Int}{v:Value}(h:Rep E w (.agg [vi most,.val (.slice none 0 0),.val (.slice none 0 0)]) v):Rep E w (.agg [vi most,.sl 7 [],.sl 5 []]) v:=by
 cases h with
 | agg xs us hl h =>
   refine .agg _ us hl λi x v hx hv=>?_
   match i with
   | 0=>exact h 0 x v hx hv
   | 1 =>
     obtain rfl:=(h 1 _ v rfl hv).val_eq;obtain rfl:AV.sl 7 []=x:=oa hx
     exact .nil 7
   | 2 =>
     obtain rfl:=(h 2 _ v rfl hv).val_eq;obtain rfl:AV.sl 5 []=x:=oa hx
     exact .nil 5
   | i+3=>simp at hx
attribute [local irreducible] AOp AW ADr AFn ze1 AFt AOpJ
set_option maxRecDepth 20000
set_option maxHeartbeats 8000000
theorem eyh2{G:Prop}(h:G:=by((repeat' (first|refine g1 ?_ oo ⟨yh9 (yh3 z) yh4 oe rfl rfl,yh8 (yh2 z) rfl rfl rfl⟩|refine g1 ?_ oo ⟨yh9 (yh6 z2) yh7 oe rfl rfl,yh8 (yh5 z2) rfl rfl rfl⟩|refine sy ?_|(refine aZ ?_;intros)|refine w0 ?_|fail));refine⟨hlt,?_⟩;exact si)):G:=h
theorem yi2(most:Int)(ss:List Slip)(ms:List SumR)(hn:ss.length<=20)(hm:ms.length<=20):AFn (cx G) 23 [bk most ss ms,bk most ss ms] (vb true):=by
 refine aby Tryz.func23 Tryz.ntmps23 λQ hQ=>?_;have hb1:(!decide (most=most))=false:=od
 have hb2:(!decide (((ss.map Slip.row).length:Int)=((ss.map Slip.row).length:Int)))=false:=od
 have hb3:(!decide (((ms.map SumR.row).length:Int)=((ms.map SumR.row).length:Int)))=false:=od
 have hb4:decide (most=most)=true:=od
 have hb5:decide (((ss.map Slip.row).length:Int)=((ss.map Slip.row).length:Int))=true:=od
 have hb6:decide (((ms.map SumR.row).length:Int)=((ms.map SumR.row).length:Int))=true:=od
 have z:Slip:=d7;have z2:SumR:=d5;(repeat' (first|refine sy ?_|(refine aZ ?_;intros)|refine w0 ?_|fail));refine zam ss.length (λi=>[(2*2,.av (.ptr 2 0)),(2*2+1,.cells 25 [vi most,.sl 7 (ss.map Slip.row),.sl 5 (ms.map SumR.row)]),(2*3,.av (.ptr 3 0)),(2*3+1,.cells 25 [vi most,.sl 7 (ss.map Slip.row),.sl 5 (ms.map SumR.row)]),(2*5,.av (vi i))]) ?_ ?_
 .exact si
 .intro i hi;rcases kae i ss.length with hlt|hge
  .clear z;obtain⟨z,hz⟩:∃z,ss[i]?=some z:=⟨_,kaa hlt⟩;have hrow:(ss.map Slip.row)[i]?=some z.row:=by simp [hz]
   have hil:i<(ss.map Slip.row).length:=oa hlt
   have hd:decide ((i:Int)<((ss.map Slip.row).length:Int))=true:=by simp;omega
   have hi1:vi ((i+1:Nat):Int)=vi ((i:Int)+1):=od
   exact eyh2
  .have he:i=ss.length:=oc
   subst he;have hd:decide ((ss.length:Int)<((ss.map Slip.row).length:Int))=false:=od
   (repeat' (first|refine sy ?_|(refine aZ ?_;intros)|refine w0 ?_|fail));refine zam ms.length (λi=>[(2*2,.av (.ptr 2 0)),(2*2+1,.cells 25 [vi most,.sl 7 (ss.map Slip.row),.sl 5 (ms.map SumR.row)]),(2*3,.av (.ptr 3 0)),(2*3+1,.cells 25 [vi most,.sl 7 (ss.map Slip.row),.sl 5 (ms.map SumR.row)]),(2*6,.av (vi i))]) ?_ ?_
   .exact si
   .intro i hi;rcases kae i ms.length with hlt|hge
    .clear z2;obtain⟨z2,hz⟩:∃z,ms[i]?=some z:=⟨_,kaa hlt⟩;have hrow:(ms.map SumR.row)[i]?=some z2.row:=by simp [hz]
     have hil:i<(ms.map SumR.row).length:=oa hlt
     have hd:decide ((i:Int)<((ms.map SumR.row).length:Int))=true:=by simp;omega
     have hi1:vi ((i+1:Nat):Int)=vi ((i:Int)+1):=od
     exact eyh2
    .have he:i=ms.length:=oc
     subst he;have hd:decide ((ms.length:Int)<((ms.map SumR.row).length:Int))=false:=od
     (repeat' (first|refine sy ?_|(refine aZ ?_;intros)|refine w0 ?_|fail));refine fe ?_;rfl
end
end Go.Ab.J
namespace Go.Ab
open Go Go.RowKit
section
variable{C:Cx}{N:Nat}{s:AS}{d:Nat}{ty:TypeId}{pos:String}{af:Array Edge}{g:Option (Nat×Bool)}{x y:Operand}{t:TypeId}
theorem ytt{w:World}{E:Env}{base e wd:Nat}{v:Value}{n:Nat}{vs:List Value}{u:Value}{news:List (List AV)}(ht:C.eap t=some (e,wd))(h8:(C.ti e).map (·.bytes)=some 8)(ho:w.ownsRow base e wd v n vs)(hu:(u=.slice none 0 0/\news=[])\/∃b o c,u=.slice (some ⟨b,o,none⟩) news.length c/\znh E w wd news b o)
  (hb:n+news.length<=10000000000000) (hbase:base<=w.heap.size) :
  ∃v' w' us,(Builtin.append_ #[t,t] ty #[v,u]).run C.P w=.ok v' w'/\w'.ownsRow base e wd v' (n+news.length) (vs++us)/\w.grownBy w' v.ownBlock/\(v'.ownBlock=v.ownBlock\/v'.ownBlock=some w.heap.size)/\yf1 E w news.flatten us:=by
 obtain⟨h1,i,z,h2,h3,h4,h5,h6,h7⟩:=Cx.eap_of ht
 have hby:i.bytes=8:=by
  cases hj:C.ti e with
  | none=>rw [hj] at h8;cases h8
  | some j =>
    rw [hj] at h8;obtain⟨_,_,i2,z2,g1,_,_,_,g5,_⟩:=Cx.ti_all hj;rw [h2] at g1;cases g1
    have:j.bytes=8:=oa h8
    omega
 rcases hu with ⟨rfl,rfl⟩|⟨b,o,c,rfl,hr⟩
 .refine⟨v,w,[],run_append_owned_none w base t ty e i wd h1 h2 v n vs ho,oa ho,⟨rfl,rfl,rfl,kac _,λ_ _ _=>rfl⟩,.inl rfl,yf1.nil E w⟩
 .obtain⟨us,g1,g2,g3,g4⟩:=zn2 (k:=0) hr.hb λi row j x hi hj=>by simpa using hr.get i row j x hi hj
  obtain⟨v',w',q1,q2,q3,_,q5⟩:=run_append_own_at (P:=C.P) w base t ty e i z wd i.bytes h1 h2 h3 h4 rfl h6 h7 v n vs ho ⟨b,o,none⟩ news.length c us g1 (λj u hu=>by rw [Addr.add_at];simpa using g2 j u hu) g4
   (by simp only [maxLen];omega) (by rw [hby];omega) hbase
  exact⟨v',w',us,q1,q2,q3,q5,g3⟩
theorem ytr{i e wd:Nat}{T:TypeId}{rows news:List (List AV)}(hd:d<N)(hx:ev s x=some (.own i))(hl:zac s (2*i+1)=some (.buf wd T rows))(hy:ztj s wd y=some news)(hf:zac s (2*d+1)=none)(ht:C.eap t=some (e,wd))(h8:(C.ti e).map (·.bytes)=some 8)(hT:Nat.beq T e=true)(hb:rows.length+news.length<=10000000000000) :
  AOp C N ⟨some d,.call { callee:=.builtin .append,args:=#[x,y],argTypes:=#[t,t] },ty,pos,af,g⟩ (rds x++rds y++srcK s y++[2*i+1,2*d+1]) s [(2*d,.av (.own d)),(2*d+1,.buf wd T (rows++news)),(2*i+1,.dead)]:=by
 intro w0 E s' a w hR hr K Q hK
 have hT:=kaj hT
 subst hT
 have hx':=zat hR (λ_ h=>by simp [h]) hx
 have hy':ztj s' wd y=some news:=(zzk hR (λ_ h=>by simp [h]) (λ_ h=>by simp [h])).trans hy
 have hl':zac s' (2*i+1)=some (.buf wd T rows):=(hR _ od).trans hl
 have hf':zac s' (2*d+1)=none:=(hR _ od).trans hf
 obtain⟨h1,vs,h2,h3⟩:=hr.mem i _ hl'
 have hsrc:=z9k hr hy'
 obtain⟨v',w',us,q1,q2,q3,q4,q5⟩:=ytt (ty:=ty) ht h8 h2 hsrc hb hr.ext.base
 have he:=zda (hr.ev hx')
 unfold Oper.wp
 rw [zul he rfl q1]
 have hr2:=hr.regrow (j:=d) (v:=v') (vs:=vs++us) (rows':=rows++news) (wd':=wd) (T':=T) hl' hf' q3 (oa q2) q4 (by simpa using h3.append q5) λrow hrow=>by
  rcases kax.1 hrow with h|h
  .exact h1 row h
  .exact z9r hsrc row h
 refine hK _ _ _ (hr2.put (x:=.own d) hd ?_ λk hk=>?_)
 .have:=Rep.own (E:=E.bufAt d v') (w:=w') d (by simp only [Env.bufAt,if_true];exact z93 q2);simpa [Env.bufAt] using this
 .simp [AV.ids] at hk;subst hk;rw [zaa,if_pos rfl];simp
end
end Go.Ab
namespace Go.Ab.J
open Go Go.Proofs Go.Kp
variable{G:zbf}
attribute [local irreducible] AOp AW ADr AFn ze1 AFt AOpJ
set_option maxRecDepth 20000
set_option maxHeartbeats 8000000
theorem uhp0{P G:Prop}(n:P)(h:Wr P->G:=by(intro nq9;first|(exact g3 nq9.p oo ⟨ytr oe rfl rfl rfl rfl rfl rfl rfl (by first|assumption|(simp;omega)),zlh rfl rfl rfl rfl rfl rfl rfl⟩))):G:=h ⟨n⟩
theorem yto(most:Int)(ss:List Slip)(ms:List SumR)(hn:ss.length<=3000000000000):AFn (cx G) 21 [bk most ss ms] (.sl 1 (il (zae ss ss.length))):=by
 refine aby Tryz.func21 Tryz.ntmps21 λQ hQ=>?_;(repeat' (first|refine uhp0 ?_|refine sy ?_|(refine aZ ?_;intros)|refine w0 ?_|(refine s2 ?_ ?_<;>intro h7<;>try omega)));refine zbx (zbd 3 1000 1 3 rfl rfl) ?_
 refine zam ss.length (λi=>[(2*1,.av (.ptr 1 0)),(2*1+1,.cells 25 [vi most,.sl 7 (ss.map Slip.row),.sl 5 (ms.map SumR.row)]),(2*3,.av (.own 1000)),(2*1000+1,.buf 1 3 (il (zae ss i))),(2*4,.av (vi i))]) ?_ ?_
 .exact si
 .intro i hi;have hlen:(zae ss i).length<=3000000000000:=by have:=zfi ss i;omega
  have hb:(il (zae ss i)).length+[[vi (i:Int)]].length<=10000000000000:=by simp;omega
  rcases kae i ss.length with hlt|hge
  .obtain⟨s,hs⟩:∃s,ss[i]?=some s:=⟨_,kaa hlt⟩;have hrow:(ss.map Slip.row)[i]?=some s.row:=by simp [hs]
   have hil:i<(ss.map Slip.row).length:=oa hlt
   have hg:ss.getD i ⟨0,0,0,0,0,0,0⟩=s:=by simp [hs]
   have hd:decide ((i:Int)<((ss.map Slip.row).length:Int))=true:=by simp;omega
   by_cases hk:s.kind=5
   .have hsucc:il (zae ss (i+1))=il (zae ss i)++[[vi i]]:=by rw [zbn,hg,if_pos hk];simp
    have hdk:decide (s.kind=5)=true:=oa hk
    (repeat' (first|refine uhp0 ?_|refine sy ?_|(refine aZ ?_;intros)|refine w0 ?_|(refine s2 ?_ ?_<;>intro h7<;>try omega)));refine⟨hlt,?_⟩;refine zbg (rn1 1000 22) ?_ rfl rfl;exact sr
   .have hsucc:il (zae ss (i+1))=il (zae ss i):=by rw [zbn,hg,if_neg hk];simp
    have hdk:decide (s.kind=5)=false:=oa hk
    (repeat' (first|refine uhp0 ?_|refine sy ?_|(refine aZ ?_;intros)|refine w0 ?_|(refine s2 ?_ ?_<;>intro h7<;>try omega)));refine⟨hlt,?_⟩;exact si
  .have he:i=ss.length:=oc
   subst he;have hd:decide ((ss.length:Int)<((ss.map Slip.row).length:Int))=false:=od
   (repeat' (first|refine uhp0 ?_|refine sy ?_|(refine aZ ?_;intros)|refine w0 ?_|(refine s2 ?_ ?_<;>intro h7<;>try omega)));refine fe ?_;rfl
end Go.Ab.J
namespace Go.Ab.J
open Go Go.Proofs Go.Kp Go.ChangeShapes Go.WideShapes Go.ChangeAt Go.RowKit
section
variable{H:Type}{enc:TypeId×Value->H}{w:World}{base b0:Nat}{sp:Nat->Bool}{held:Bool}{v:Value}{d:DataW H}{p:List MemPlace}
theorem open_bool{P:Program}{t:TypeId}(ht:P.underlying t=some .bool)(hval:Value.okWide P w .any b0 t v):∃b,v=.bool b:=okWide_bool ht hval
set_option maxRecDepth 100000
end
section
variable{H:Type}{enc:TypeId×Value->H}{P:Program}{w:World}{base:Nat}{spare:Nat->Bool}{held:Bool}
theorem yky{t:TypeId}{ts:List TypeId}{vs:List Value}{ds:List (DataW H)}{ps:List MemPlace}(h:DataW.TrodAll enc P w base spare held (t::ts) vs ds ps) :
  ∃v vs' d ds' p q,vs=v::vs'/\ds=d::ds'/\ps=p++q/\DataW.Trod enc P w base spare held t v d p/\DataW.TrodAll enc P w base spare held ts vs' ds' q:=by
 cases vs<;>cases ds<;>simp [DataW.TrodAll] at h
 obtain⟨p,hp,q,hq,e⟩:=h
 exact⟨_,_,_,_,p,q,rfl,rfl,e,hp,hq⟩
theorem yl3{t0 t1 t2 t3 t4:TypeId}{args:Array Value}{ds:List (DataW H)}{ps:List MemPlace}(h:DataW.TrodAll enc P w base spare held [t0,t1,t2,t3,t4] args.toList ds ps) :
  ∃v0 v1 v2 v3 v4 d0 d1 d2 d3 d4 p0 p1 p2 p3 p4,args=#[v0,v1,v2,v3,v4]/\ds=[d0,d1,d2,d3,d4]/\ps=p0++p1++p2++p3++p4/\DataW.Trod enc P w base spare held t0 v0 d0 p0/\DataW.Trod enc P w base spare held t1 v1 d1 p1/\DataW.Trod enc P w base spare held t2 v2 d2 p2/\DataW.Trod enc P w base spare held t3 v3 d3 p3/\DataW.Trod enc P w base spare held t4 v4 d4 p4:=by
 obtain⟨v0,vs,d0,ds',p0,q,hargs,rfl,rfl,h0,hr⟩:=yky h
 obtain⟨v1,vs1,d1,ds1,p1,q1,rfl,rfl,rfl,h1,hr⟩:=yky hr
 have hr':DataW.TrodAll enc P w base spare held [t2,t3,t4] (vs1.toArray).toList ds1 q1:=oa hr
 obtain⟨v2,v3,v4,d2,d3,d4,p2,p3,p4,e,rfl,rfl,h2,h3,h4⟩:=trodAll_three hr'
 have e':vs1=[v2,v3,v4]:=by simpa using congrArg Array.toList e
 subst e'
 exact⟨v0,v1,v2,v3,v4,d0,d1,d2,d3,d4,p0,p1,p2,p3,p4,by cases args;simp_all,rfl,od,h0,h1,h2,h3,h4⟩
theorem yks{t:TypeId}{ts:List TypeId}{v:Value}{vs:List Value}{d:DataW H}{ds:List (DataW H)}{p q:List MemPlace}(h:DataW.Trod enc P w base spare held t v d p)(hr:DataW.TrodAll enc P w base spare held ts vs ds q):DataW.TrodAll enc P w base spare held (t::ts) (v::vs) (d::ds) (p++q):=⟨p,q,h,hr,rfl⟩
end
theorem ytq{E:Env}{w:World}{wd:Nat}{R:List (List AV)}{v:Value}(h:Rep E w (.sl wd R) v):(v=.slice none 0 0/\R=[])\/∃a n c,v=.slice (some a) n c/\n=R.length:=by
 cases h with
 | nil=>exact .inl ⟨rfl,rfl⟩
 | sl _ _ b o c=>exact .inr ⟨_,_,_,rfl,rfl⟩
theorem yty:(Tryz.prog.fieldsOf 25).toList.map (·.type)=[3,22,23]:=by kernel_rfl
theorem ytz:Tryz.prog.bytesOf 63=56:=by kernel_rfl
theorem ytf{H:Type}{P:Program}{b:Nat}:∀{ts:List TypeId} {ds:List (DataW H)} {i:Nat} {t:TypeId} {d:DataW H},(DataW.weightsEach P ts ds).all (·<=b)=true->ts[i]?=some t->ds[i]?=some d->(d.weights P t).all (·<=b)=true
 | [],_,_,_,_,_,h1,_=>by simp at h1
 | _::_,[],_,_,_,_,_,h2=>by simp at h2
 | t0::ts,d0::ds,i,t,d,h,h1,h2=>by
   simp only [DataW.weightsEach,List.all_append,ka0] at h;cases i with
   | zero =>
     obtain rfl:t0=t:=oa h1
     obtain rfl:d0=d:=oa h2
     exact h.1
   | succ i=>exact ytf h.2 (oa h1) (oa h2)
theorem ytp{H:Type}{enc:TypeId×Value->H}{w:World}{sp:Nat->Bool}{held:Bool}{v:Value}{d:DataW H}{p:List MemPlace}{most:Int}{ss:List Slip}{ms:List SumR}{E:Env}
  (h:DataW.Trod enc Tryz.prog w 0 sp held 25 v d p) (hw:(d.weights Tryz.prog 25).all (·<=reachBytes)=true) (hr:Rep E w (bk most ss ms) v):ss.length<=3000000000000:=by
 obtain⟨fuel,h⟩:=h
 obtain⟨_,xs,m,hx,hxl,hel⟩:=zsc yd1 z7h h
 obtain⟨y1,hy1,h1⟩:=hel 1 _ rfl
 obtain⟨x0,x1,x2,rfl⟩:=len3 hxl
 obtain rfl:x1=y1:=oa hy1
 have hd:d=.agg [x0.1,x1.1,x2.1]:=oa hx
 rw [hd] at hw
 have hw1:(x1.1.weights Tryz.prog 22).all (·<=reachBytes)=true:=by simp only [DataW.weights,z7h,yty] at hw;exact ytf (i:=1) hw rfl rfl
 cases hr with
 | agg _ us hul hu =>
   obtain⟨c0,c1,c2,rfl⟩:=len3 hul.symm;have r1:Rep E w (.sl 7 (ss.map Slip.row)) c1:=hu 1 _ c1 rfl rfl;have c1t:Tryz.prog.cellsOf 22=1:=by kernel_rfl
   rw [c1t] at h1;rcases DataW.trod_slice zy5 h1 with ⟨hc,_⟩|⟨a,len,cap,elems,rest,n,_,hcs,hx1,_,_,_,hlen,_⟩
   .obtain rfl:c1=.slice none 0 0:=by simpa [Value.cells] using hc
    rcases ytq r1 with ⟨_,h⟩|⟨_,_,_,h,_⟩
    .have:=congrArg List.length h;simp at this;simp [this]
    .cases h
   .obtain rfl:c1=.slice (some a) len cap:=by simpa [Value.cells] using hcs
    rcases ytq r1 with ⟨h,_⟩|⟨a',n',c',h,hn⟩
    .cases h
    .have hl:len=ss.length:=by
       obtain⟨_,h2,_⟩:=Value.slice.inj h;rw [h2,hn,ka6]
     rw [hx1] at hw1;simp only [DataW.weights,zy5,List.all_cons,ka0,ytz,ka6] at hw1;have h3:=of_decide_eq_true hw1.1;have e:reachBytes=140737488351232:=by kernel_rfl
     rw [e] at h3;omega
end Go.Ab.J
namespace Go.Proofs.YtbnajhgbhbgjdaaGreatDoor
open Go Go.Ab Go.ChangeShapes Go.WideShapes Go.ChangeAt Go.RowKit Go.Conc Go.ConcM Go.Ab.J
theorem z0b:Tryz.f4.params=#[25,5,5,5,4]:=by kernel_rfl
set_option maxRecDepth 100000 in
theorem yaa(hlaw:∀u most ss ms a1 a2 a3 a4,ss.length<=3000000000000->0<=a1->a1<256->0<=a2->a2<256->0<=a3->a3<256->Top (cx (zch u)) 4 [bk most ss ms,.val (.int .u8 a1),.val (.int .u8 a2),.val (.int .u8 a3),.val (.bool a4)] (.val (.bool true)))
  (os:Os) (started:os.Started) (H:Type) (enc:TypeId×Value->H) (F:Stop.Interp) :
  ReturnsInLeavingWide Rows.salesSignedRow.assume Tryz.checked os 4 .any (λw args=>(Rows.salesSignedSpec.pre enc Tryz.prog Tryz.f4 [] false w args/\laidMetH Tryz.prog Rows.salesSignedRow.laid w)/\sizedMet enc Tryz.prog Tryz.f4 (OpenSpec.ofChange Rows.salesSignedSpec) false w args)
   ((OpenSpec.ofChange Rows.salesSignedSpec).postWith enc Tryz.prog Tryz.f4 F (outsideKept [.timePasses]) false true false):=by
 refine zt2 (C:=Tryz.checked) (X:=λw _=>laidMetH Tryz.prog Rows.salesSignedRow.laid w) (λ_ _ _ hh h=>h.of_heap hh.symm) own0 started Tryz.func4
  (zqz (C:=Tryz.checked) (enc:=enc) (os:=os) (X:=λw _=>laidMetH Tryz.prog Rows.salesSignedRow.laid w) (World.doorLaid Tryz.prog 30 os) #[.agg #[.int .i64 0,.slice none 0 0,.slice none 0 0],.int .u8 0,.int .u8 0,.int .u8 0,.bool false] 8 rfl (World.shaped_of_RefB ot ot) ot ot ot (door_met os _)) ?_
 intro W base args ds gs before hval0 hW hL hZ0
 have hval:∀(j:Nat) t v,Tryz.f4.params[j]?=some t->args[j]?=some v->Value.okWide Tryz.prog W .any base t v:=hval0
 have hZ:(DataW.weightsEach Tryz.prog (Tryz.f4.params.toList++_) (ds++gs)).all (·<=reachBytes)=true:=hZ0
 have hW':=hW
 obtain⟨p,q,hA0,hV,rfl,_,_⟩:=hW
 have hA:DataW.TrodAll enc Tryz.prog W 0 (λ_=>true) true Tryz.f4.params.toList args.toList ds p:=hA0
 rw [z0b] at hA hval hZ
 obtain⟨v0,v1,v2,v3,v4,d0,d1,d2,d3,d4,p0,p1,p2,p3,p4,rfl,rfl,rfl,h0,h1,h2,h3,h4⟩:=yl3 hA
 obtain⟨rfl,rfl⟩:=trodVars_none hV
 have l0:∀x∈p0,x.block<W.heap.size:=λx hx=>by simpa using hW'.lt x (by simp [hx])
 have l1:∀x∈p1,x.block<W.heap.size:=λx hx=>by simpa using hW'.lt x (by simp [hx])
 have l2:∀x∈p2,x.block<W.heap.size:=λx hx=>by simpa using hW'.lt x (by simp [hx])
 have l3:∀x∈p3,x.block<W.heap.size:=λx hx=>by simpa using hW'.lt x (by simp [hx])
 have l4:∀x∈p4,x.block<W.heap.size:=λx hx=>by simpa using hW'.lt x (by simp [hx])
 obtain⟨most,ss,ms,r0⟩:=z2o (hval 0 25 v0 rfl rfl) h0
 obtain⟨a1,rfl,_,_,w1⟩:=open_int u_u8 (hval 1 5 v1 rfl rfl) h1
 have r1:Rep (zca (zd0 W)) W (.val (.int .u8 a1)) (.int .u8 a1):=.val _
 obtain⟨a2,rfl,_,_,w2⟩:=open_int u_u8 (hval 2 5 v2 rfl rfl) h2
 have r2:Rep (zca (zd0 W)) W (.val (.int .u8 a2)) (.int .u8 a2):=.val _
 obtain⟨a3,rfl,_,_,w3⟩:=open_int u_u8 (hval 3 5 v3 rfl rfl) h3
 have r3:Rep (zca (zd0 W)) W (.val (.int .u8 a3)) (.int .u8 a3):=.val _
 obtain⟨a4,rfl⟩:=Go.Ab.J.open_bool z7g (hval 4 4 v4 rfl rfl)
 have r4:Rep (zca (zd0 W)) W (.val (.bool a4)) (.bool a4):=.val _
 obtain⟨u,hu⟩:=zza hL
 clear hA0 hval0
 refine(hlaw u most ss ms a1 a2 a3 a4 (ytp h0 (ytf (i:=0) hZ rfl rfl) r0) (u8_range w1).1 (u8_range w1).2 (u8_range w2).1 (u8_range w2).2 (u8_range w3).1 (u8_range w3).2).run _ (zd0 W) W _ (λb hb=>zx7 hb) (λb o hb ho=>?_) hu ?_ λv w' hkeep hsize hos hout hv=>?_
 .obtain⟨c,t,f,e⟩:=hb;rw [e] at ho;obtain rfl:=kaw ho
  trivial
 .exact(((((rNil).cons r4).cons r3).cons r2).cons r1).cons r0
 .obtain⟨_,hv⟩:=hv;obtain rfl:=hv.val_eq
  have hbel:Below W.heap.size W { w' with os:=W.os,tape:=W.tape }:=⟨rfl,rfl,hout,hsize,hkeep⟩
  exact⟨⟨_,_,_,[],_,[],hW',trodAll_mk1 (shut_bool z7g _),DataW.TrodAll.of_heap (w:={ w' with os:=W.os,tape:=W.tape }) og (yks (Below.trod laidOut0 ot (of_decide_eq_true ot) h0 hbel l0) (yks (Below.trod laidOut0 ot (of_decide_eq_true ot) h1 hbel l1) (yks (Below.trod laidOut0 ot (of_decide_eq_true ot) h2 hbel l2) (yks (Below.trod laidOut0 ot (of_decide_eq_true ot) h3 hbel l3) (trodAll_mk1 (Below.trod laidOut0 ot (of_decide_eq_true ot) h4 hbel l4)))))),rfl,kept_of (hbel.frame _),λh=>by cases h⟩,hos⟩
theorem kfN:Tryz.checked.prog.funcNamed Rows.salesSignedRow.func=some 4:=by kernel_rfl
theorem kfJ:joinedFacts Tryz.checked.prog 4 Tryz.f4 Rows.salesSignedSpec Rows.salesSignedRow=true:=by kernel_rfl
theorem kfI:Tryz.f4.isInstance Tryz.checked.prog Rows.salesSignedRow.origin Rows.salesSignedRow.targs:=of_decide_eq_true ot
theorem kfP:Tryz.f4.isWrapper Tryz.checked.prog Rows.salesSignedRow.wrapper Rows.salesSignedRow.mainSum:=by unfold Func.isWrapper;first|(rw [if_pos (by decide +kernel)];kernel_rfl)|(rw [if_neg (by decide +kernel)];exact⟨rfl,rfl⟩)
theorem kfW:Rows.salesSignedRow.wfByText (OpenSpec.ofChange Rows.salesSignedSpec)=true:=by kernel_rfl
theorem kfM : Tryz.checked.prog.mainIs = some (true, "70ef2974074eff7df72597cfe596aa669f2c5316aaf6a4666853ff5ae3af5d6e".toList) := by kernel_rfl
theorem kfL:false=Tryz.checked.prog.looks []:=by kernel_rfl
theorem kfS:([25,5,5,5,4].all λu=>!Tryz.prog.wantsStandIn u)=true:=by kernel_rfl
theorem kfG:true=Rows.salesSignedRow.goesBy Tryz.checked.prog:=by kernel_rfl
theorem yox(hlaw:∀u most ss ms a1 a2 a3 a4,ss.length<=3000000000000->0<=a1->a1<256->0<=a2->a2<256->0<=a3->a3<256->Top (cx (zch u)) 4 [bk most ss ms,.val (.int .u8 a1),.val (.int .u8 a2),.val (.int .u8 a3),.val (.bool a4)] (.val (.bool true))):Rows.SalesSignedSaid :=
 OpenClaim.holds_of_wide_leaving_time 4 Tryz.f4 rfl rfl rfl rfl rfl rfl rfl ⟨rfl,rfl,rfl,rfl,rfl⟩ rfl rfl rfl rfl rfl kfN Tryz.func4 kfJ kfI kfP (λos started H enc _ F=>yaa hlaw os started H enc F)
theorem ybe(hlaw:∀u most ss ms a1 a2 a3 a4,ss.length<=3000000000000->0<=a1->a1<256->0<=a2->a2<256->0<=a3->a3<256->Top (cx (zch u)) 4 [bk most ss ms,.val (.int .u8 a1),.val (.int .u8 a2),.val (.int .u8 a3),.val (.bool a4)] (.val (.bool true))):Rows.SalesSignedCardSaid :=
 zmn .later [.funcs, .funcs] true (true, "70ef2974074eff7df72597cfe596aa669f2c5316aaf6a4666853ff5ae3af5d6e") false (yox hlaw) kfW salesSigned_row_tie rfl ⟨rfl, rfl⟩ kfM rfl
  (λf fn hf hfn=>by
    obtain rfl:f=4:=kaw (kfN.symm.trans hf) |>.symm;obtain rfl:fn=Tryz.f4:=(kaw (Tryz.func4.symm.trans hfn)).symm
    exact⟨kfL,λj t ht=>by
     rw [z0b] at ht;have hm:t∈[25,5,5,5,4]:=by simpa using kbl ht
     exact(show Tryz.prog.wantsStandIn t=false by simpa using kar.1 kfS t hm)⟩) kfG
end Go.Proofs.YtbnajhgbhbgjdaaGreatDoor
