/- For every book and all numbers SalesReached answers true, whatever other goroutines do, and leaves its arguments as they were. Conditions: those of the given row, none else. -/
import Derived.Test.YtbnajhgbhbgjdaaGreatDoorHRc
import Derived.Test.YtbnajhgbhbgjdaaGreatDoorHRd
import Derived.Test.YtbnajhgbhbgjdaaGreatDoorHRe
import Derived.Sort.AssemblyPlain
import Derived.Sort.LotD4
import Derived.Sort.LotD5
namespace Go.Ab.J
open Go Go.Proofs Go.Kp
theorem yqa(ss:List Slip){wr wr':List Int}{sg sg':List Bool}:∀n,(∀j,j<n->wr.getD j 0=wr'.getD j 0)->(∀j,j<n->(ss.getD j d7).kind=5->sg.getD j false=sg'.getD j false)->zhq ss wr sg n=zhq ss wr' sg' n
 | 0,_,_=>rfl
 | n+1,h1,h2=>by
   have ih:=yqa ss (wr:=wr) (wr':=wr') (sg:=sg) (sg':=sg') n (λj hj=>h1 j oc) (λj hj=>h2 j oc);have e1:=h1 n oc;have e2:=h2 n oc;unfold zhq;rw [ih,e1];by_cases h5:(ss.getD n d7).kind=5
   .rw [e2 h5]
   .rw [if_neg h5,if_neg h5]
theorem yql(ws:List Int)(j:Nat):(zvy ws).getD j 0=ws.getD j 0:=by
 unfold zvy;simp only [kai];rcases kae j ws.length with h|h
 .rw [kam h]
 .rw [kao h,List.getElem?_replicate,kay h];split<;>rfl
theorem yp8(ss:List Slip){n:Nat}(h5:(ss.getD n d7).kind=5):∀k,(zae ss (n+1+k)).getD (zae ss n).length 0=(n:Int)/\(zae ss n).length<(zae ss (n+1+k)).length
 | 0=>by rw [kb1,zuh,if_pos h5];simp
 | k+1=>by obtain⟨h1,h2⟩:=yp8 ss h5 k;rw [show n+1+(k+1)=(n+1+k)+1 by omega,zuh];refine⟨?_,by simp;omega⟩;rw [<-h1];simp only [kai];rw [kam h2]
theorem yqd(ss:List Slip)(N:Nat){a b:Nat}(ha:a<b)(hb:b<(zae ss N).length):(zae ss N).getD a 0<(zae ss N).getD b 0:=by
 have hp:(zae ss N).Pairwise (· < ·):=by unfold zae;rw [List.pairwise_map];exact(List.Pairwise.filter _ List.pairwise_lt_range).imp λh=>oc
 have:=kea.1 hp a b oc hb ha;simpa [kai,hb,kd1 ha hb] using this
theorem yqx(ss:List Slip)(sg:List Bool)(h6:ss.length<=6){i:Nat}(hi:i<(zae ss ss.length).length):∀n,n<=(zae ss ss.length).length->i<n->(sgU (zae ss ss.length) sg n).getD ((zae ss ss.length).getD i 0).toNat false=sg.getD i false
 | 0,_,h=>absurd h oc
 | n+1,hn,h=>by
   have hb:∀j,j<(zae ss ss.length).length->0<=(zae ss ss.length).getD j 0/\(zae ss ss.length).getD j 0<(ss.length:Int):=λj hj=>by refine z5y ss ss.length _ ?_;simp [hj]
   have hl:=ztl (zae ss ss.length) sg n;have b1:=hb i hi;have b2:=hb n oc;rw [sgU];by_cases e:i=n
   .subst e;simp only [kai] at *;rw [kc5 oc];rfl
   .have hlt:=yqd ss ss.length (a:=i) (b:=n) oc oc;have ih:=yqx ss sg h6 hi n oc oc;rw [<-ih];generalize (zae ss ss.length).getD i 0=x at *;generalize (zae ss ss.length).getD n 0=y at *;simp only [kai];rw [kdg oc]
theorem yqk(ss:List Slip)(hn6:ss.length<=6)(p:zd6):zc0 ss (zvy (toR ss p).1,sgU (zae ss ss.length) (toR ss p).2 (zae ss ss.length).length)=zc0 ss p:=by
 unfold zc0;refine yqa ss _ (λj hj=>?_) (λj hj h5=>?_)
 .rw [yql];simp only [toR,kai,ka5,if_pos hj]
 .obtain⟨a1,a2⟩:=yp8 ss h5 (ss.length-(j+1));rw [show j+1+(ss.length-(j+1))=ss.length by omega] at a1 a2;have h1:=yqx ss (toR ss p).2 hn6 a2 _ (kac _) a2;rw [a1,kb9] at h1;have h2:=yda ss p.2 h5 (ss.length-(j+1));rw [show j+1+(ss.length-(j+1))=ss.length by omega] at h2;exact h1.trans h2
theorem yqh{most:Int}{ss:List Slip}{ms:List SumR}(hg:Good most ss ms){p:zd6}(hp:p∈zah most ss ms) :
  (zcp most ss ms (toR ss p).1 (toR ss p).2).2=0/\zxt most ss ms (toR ss p).1 (toR ss p).2=(zc0 ss p).take ss.length/\zxs most ss ms (toR ss p).1 (toR ss p).2=zan ss ms (zc0 ss p):=by
 obtain⟨⟨l1,l2⟩,hab⟩:=ziu hg hp
 have hn6:=hg.nss
 have hall:=(kbw.1 hp).1
 have hf:=z6x hg p hall
 have hc:=(za2 most ss ms).2 hg
 have e1:(toR ss p).1.length=ss.length:=by simp [toR];omega
 have e3:(toR ss p).2.length=(zae ss ss.length).length:=by simp [toR,sgR]
 have e2:(toR ss p).1.any z0e=false:=by
  rw [List.any_eq_false];intro x hx;obtain⟨j,hj⟩:=kba hx;have hjl:j<ss.length:=by have:=(kab.1 hj).1;omega
  obtain⟨⟨h1,h2⟩,_⟩:=hf j hjl;have hk:=(zld hg hjl).amt;have hv:p.1.getD j 0=x:=by simp only [toR,ka5,if_pos hjl] at hj;simp [hj]
  simp [z0e];omega
 have hF:zcp most ss ms (toR ss p).1 (toR ss p).2=((zvy (toR ss p).1,sgU (zae ss ss.length) (toR ss p).2 (zae ss ss.length).length),0):=by unfold zcp;rw [if_neg (by simp [hc]),if_neg (by simp [e1]),if_neg (by simp [e2]),if_neg (by simp [e3])]
 have hN:=yqk ss hn6 p
 refine⟨by rw [hF],?_,?_⟩
 .rw [zxt,hF,if_neg od];simp only;rw [hN]
 .rw [zxs,hF,if_neg od];simp only;rw [hN]
theorem ysw{L S:List Int}(hS:S.Pairwise (· < ·))(hm:∀x,x∈S↔x∈L){lo hi:Int}(h1:lo∈L)(h2:∀x∈L,lo<=x)(h3:hi∈L)(h4:∀x∈L,x<=hi):0<S.length/\S.getD 0 0=lo/\S.getD (S.length-1) 0=hi:=by
 obtain⟨j,hj,ej⟩:=ked ((hm lo).2 h1);obtain⟨k,hk,ek⟩:=ked ((hm hi).2 h3);have hpos:0<S.length:=oc
 have e0:S.getD 0 0=S[0]:=by simp [hpos]
 have e1:S.getD (S.length-1) 0=S[S.length-1]:=by
  have:S.length-1<S.length:=oc
  simp [this]
 refine⟨hpos,?_,?_⟩
 .rw [e0];have a:=h2 S[0] ((hm _).1 (kbf hpos));rcases kbj j with h|h
  .subst h;exact ej
  .have:=kea.1 hS 0 j hpos hj h;omega
 .rw [e1];have hl:S.length-1<S.length:=oc
  have a:=h4 S[S.length-1] ((hm _).1 (kbf hl));rcases kae k (S.length-1) with h|h
  .have:=kea.1 hS k (S.length-1) hk hl h;omega
  .have:k=S.length-1:=oc
   subst this;exact ek
theorem yqr(l:List Int):(yls l).length<=l.length:=yqf l l.length
theorem yp9(ss:List Slip)(ms:List SumR)(am:List Int):(zan ss ms am).length<=ms.length:=by unfold zan zao;rw [ka6];exact kak (kbc _ _) od
def yqj(ss:List Slip)(p:zd6):List Int:=(zc0 ss p).take ss.length
theorem yqm{ss:List Slip}(h6:ss.length<=6)(p:zd6):(yqj ss p).length=ss.length:=by unfold yqj zc0;rw [kcj,zfy];omega
theorem yqc(ss:List Slip)(p:zd6){j:Nat}(hj:j<ss.length):(yqj ss p).getD j 0=(zc0 ss p).getD j 0:=by unfold yqj;simp only [kai,ka5,if_pos hj]
theorem yre{ss:List Slip}{p:zd6}(h:zhn (zc0 ss p)):zhn (yqj ss p):=λj=>by
 rcases kae j ss.length with hj|hj
 .rw [yqc ss p hj];exact h j
 .have:(yqj ss p).getD j 0=0:=by
    unfold yqj;simp only [kai,ka5,if_neg (kd6.2 hj)];rfl
  rw [this];decide
def yri(ss:List Slip)(K A:Int)(p:zd6):Int:=zbo ss (yqj ss p) K.toNat A ss.length
theorem yrd(ss:List Slip)(K A:Int)(p:zd6):yri ss K A p=zbo ss (zc0 ss p) K.toNat A ss.length:=by unfold yri zbo;congr 1;refine kcn λi hi=>?_;rw [yqc ss p (ka3.1 hi)]
theorem ysf{α:Type}(f:zd6->α)(H:List zd6){h:Nat}(hh:h<H.length):(H.take (h+1)).map f=(H.take h).map f++[f (H.getD h d12)]:=by
 have e:H.getD h d12=H[h]:=by simp [hh]
 rw [kb8,kaa hh,kbt,e];rfl
theorem yp7(f:Nat->Int):∀n,0<n->(∀i,i<n->(zh2 f n).1<=f i/\f i<=(zh2 f n).2)/\(∃i,i<n/\f i=(zh2 f n).1)/\∃i,i<n/\f i=(zh2 f n).2
 | 0,h=>absurd h oc
 | 1,_=>by
   have e1:(zh2 f 1).1=f 0:=by simp [zh2]
   have e2:(zh2 f 1).2=f 0:=by simp [zh2]
   rw [e1,e2];exact⟨λi hi=>by obtain rfl:i=0:=(oc);exact⟨kek _,kek _⟩,⟨0,oc,rfl⟩,⟨0,oc,rfl⟩⟩
 | n+2,_=>by
   obtain⟨h1,⟨i,hi,ei⟩,⟨j,hj,ej⟩⟩:=yp7 f (n+1) oc;have e1:(zh2 f (n+2)).1=min (zh2 f (n+1)).1 (f (n+1)):=rfl;have e2:(zh2 f (n+2)).2=max (zh2 f (n+1)).2 (f (n+1)):=rfl;rw [e1,e2];refine⟨λk hk=>?_,?_,?_⟩
   .rcases kae k (n+1) with hk2|hk2
    .have:=h1 k hk2;omega
    .obtain rfl:k=n+1:=oc
     omega
   .rcases Int.le_total (zh2 f (n+1)).1 (f (n+1)) with hl|hl
    .exact⟨i,oc,oc⟩
    .exact⟨n+1,oc,oc⟩
   .rcases Int.le_total (zh2 f (n+1)).2 (f (n+1)) with hl|hl
    .exact⟨n+1,oc,oc⟩
    .exact⟨j,oc,oc⟩
theorem ysp{most:Int}{ss:List Slip}{ms:List SumR}(K A:Int)(hne:0<(zah most ss ms).length) :
  0<(yls ((zah most ss ms).map (yri ss K A))).length/\(yls ((zah most ss ms).map (yri ss K A))).getD 0 0=(zh2 (zzd most ss ms K A) (zah most ss ms).length).1/\(yls ((zah most ss ms).map (yri ss K A))).getD ((yls ((zah most ss ms).map (yri ss K A))).length-1) 0=(zh2 (zzd most ss ms K A) (zah most ss ms).length).2:=by
 obtain⟨h1,⟨i,hi,ei⟩,⟨j,hj,ej⟩⟩:=yp7 (zzd most ss ms K A) _ hne
 obtain⟨s1,s2⟩:=yk7 ((zah most ss ms).map (yri ss K A))
 have hget:∀i,i<(zah most ss ms).length->zzd most ss ms K A i∈(zah most ss ms).map (yri ss K A):=λi hi=>by refine kav.2 ⟨_,zv9 hi,?_⟩;rw [yrd];rfl
 have hall:∀x∈(zah most ss ms).map (yri ss K A),∃i,i<(zah most ss ms).length/\zzd most ss ms K A i=x:=λx hx=>by
  obtain⟨p,hp,rfl⟩:=kav.1 hx;obtain⟨i,hi,e⟩:=ked hp;refine⟨i,hi,?_⟩;have:(zah most ss ms).getD i d12=p:=by simp [hi,e]
  rw [yrd,zzd,this]
 refine ysw s1 s2 (by rw [<-ei];exact hget i hi) (λx hx=>?_) (by rw [<-ej];exact hget j hj) (λx hx=>?_)
 .obtain⟨i,hi,rfl⟩:=hall x hx;exact(h1 i hi).1
 .obtain⟨i,hi,rfl⟩:=hall x hx;exact(h1 i hi).2
theorem yso(k n:Nat)(hn:0<n):zpe k n=if (k:Int)=(n:Int) then 1 else if (k:Int)=0 then 2 else 0:=by
 unfold zpe;by_cases h0:k=0
 .subst h0;rw [if_pos rfl,if_neg oc];simp
 .rw [if_neg h0];by_cases h1:k=n
  .rw [if_pos h1,if_pos oc]
  .rw [if_neg h1,if_neg oc,if_neg oc]
theorem yq4(most:Int)(ss:List Slip)(ms:List SumR){i:Nat}(hi:i<ss.length):ybr most ss ms i=(zah most ss ms).map λp=>(yqj ss p).getD i 0:=by unfold ybr;exact kcn λp _=>(yqc ss p hi).symm
end Go.Ab.J
namespace Go.Ab
open Go Go.RowKit
theorem ysh{G:zbf}{N:Nat}{s:AS}{wd:Nat}{T:TypeId}{rows:List (List AV)}(t i:Nat)(ht:zac s (2*t)=some (.av (.own i)))(hl:zac s (2*i+1)=some (.buf wd T rows))(hN:t<N) :
  Sub G N s ((2*t,.av (.sl wd rows))::(2*i+1,.frz wd rows)::s):=λw0 a w E hr=>by
 obtain⟨E',h1,h2,h3,h4⟩:=hr.frz1 hl
 have hm0:=h1.mem i (.frz wd rows) (by rw [zaa,if_pos rfl])
 have hm:Rep E' w (.sl wd rows) (E'.buf i):=hm0
 have hv:a.tmps.getD t undef=E'.buf i:=zda (h1.tmp t _ (by rw [zaa,if_neg (oc)];exact ht))
 have h5:=h1.put hN (x:=.sl wd rows) (v:=a.tmps.getD t undef) (by rw [hv];exact hm) (λk hk=>by simp [AV.ids] at hk)
 rw [zvs] at h5
 exact⟨_,h5⟩
end Go.Ab
namespace Go.Ab.J
open Go Go.Proofs Go.Kp
variable{G:zbf}{u:Nat->ByteArray}
attribute [local irreducible] AOp AW ADr AFn ze1 AFt AOpJ
set_option maxRecDepth 20000
set_option maxHeartbeats 8000000
abbrev soSt(l O:List Int)(i k:Nat):AS:=[(2*0,.av (.sl 1 (il l))),(2*3,.av (.sl 1 (il O))),(2*4,.av (vi i)),(2*5,.av (vi k))]
theorem uss0{P G:Prop}(n:P)(h:Wr P->G:=by(intro nq9;first|exact g1 nq9.p oG ⟨a_slH oe rfl rfl rfl rfl rfl rfl oy,ys3 rfl rfl⟩|exact g1 nq9.p oG ⟨a_slL oe rfl rfl rfl rfl rfl rfl oy,ys3 rfl rfl⟩)):G:=h ⟨n⟩
theorem ysm(l:List Int)(hl:l.length<=100000):AFn (cx G) 15 [.sl 1 (il l)] (.sl 1 (il (yls l))):=by
 refine zg1 Tryz.func15 rfl Tryz.ntmps15 rfl rfl rfl (λQ hQ=>?_) rfl;(repeat' (first|refine sy ?_|(refine aZ ?_;intros)|refine w0 ?_|fail));refine zbx (zze 3 1 rfl) ?_;refine zam l.length (λi=>[(2*0,.av (.sl 1 (il l))),(2*3,.av (.sl 1 (il (ymw l i)))),(2*4,.av (vi i))]) ?_ ?_
 .exact si
 .intro i hi;rcases kae i l.length with hlt|hge
  .have hd:decide ((i:Int)<((il l).length:Int))=true:=by simp;omega
   have hi1:vi ((i+1:Nat):Int)=vi ((i:Int)+1):=od
   have hol:=yqf l i;have hs:ymw l (i+1)=yo0 (ymw l i) (l.getD i 0):=rfl;generalize ymw l i=O at hol hs |-;generalize hx:l.getD i 0=x at hs;have vx:=ykt hlt;rw [hx] at vx;have lx:i<(il l).length:=by simp;exact hlt
   obtain⟨k1,_,_⟩:=ymo O x O.length;unfold yo0 at hs;generalize hK:dnK O x O.length=K at k1 hs;have eO:vi (((il O).length:Nat):Int)=vi ((O.length:Nat):Int):=od
   (repeat' (first|refine aSK (c:=.block 2 _) (λ_:Unit=>soSt l O i K) (λ_=>True) ?_ ?_|refine sy ?_|(refine aZ ?_;intros)|refine w0 ?_|fail))
   .intro _ _;have hb1:(il O).length<=100000:=by simp;omega
    by_cases hKl:K<O.length
    .have hdk:decide ((K:Int)<((il O).length:Int))=true:=by simp;omega
     have vk:=ykt hKl;have lk:K<(il O).length:=by simp;exact hKl
     by_cases he:O.getD K 0=x
     .have hde:decide (O.getD K 0=x)=true:=decide_eq_true he;rw [if_pos ⟨hKl,he⟩] at hs;(repeat' (first|refine sy ?_|(refine aZ ?_;intros)|refine w0 ?_|fail));refine⟨hlt,?_⟩;rw [hs];clear hs vk vx;exact si
     .have hde:decide (O.getD K 0=x)=false:=decide_eq_false he;rw [if_neg (λh=>he h.2)] at hs;have hs2:il (ymw l (i+1))=(([]++(il O).take K)++[[vi x]])++(il O).drop K:=by rw [hs];simp [il]
      (repeat' (first|refine uss0 ?_|refine sy ?_|(refine aZ ?_;intros)|refine w0 ?_|fail));refine⟨hlt,(ysh 3 59 rfl rfl oe).trans ?_⟩;rw [hs2];clear hs hs2 vk vx;exact si
    .have hdk:decide ((K:Int)<((il O).length:Int))=false:=by simp;omega
     rw [if_neg (λh=>hKl h.1)] at hs;have hs2:il (ymw l (i+1))=(([]++(il O).take K)++[[vi x]])++(il O).drop K:=by rw [hs];simp [il]
     (repeat' (first|refine uss0 ?_|refine sy ?_|(refine aZ ?_;intros)|refine w0 ?_|fail));refine⟨hlt,(ysh 3 59 rfl rfl oe).trans ?_⟩;rw [hs2];clear hs hs2 vx;exact si
   .intro P8 h0;have h8:∀s,Sub (cx G).G 61 s (soSt l O i K)->P8 s:=λs h=>h0 s () trivial h;clear h0;refine aB λP7 _ _ _ _=>?_;refine z2s (ι:={k:Nat // dnK O x O.length=dnK O x k/\k<=O.length}) (λk=>soSt l O i k.1) (λk=>k.1) ⟨O.length,rfl,kac _⟩ ?_ ?_
    .clear vx;exact si
    .rintro⟨k,hZ,hkl⟩;simp only at hZ hkl |-;rw [hK] at hZ;cases k with
     | zero =>
       have hdz:decide ((0:Int)<((0:Nat):Int))=false:=oe
       have hz:K=0:=hZ;subst hz;(repeat' (first|refine sy ?_|(refine aZ ?_;intros)|refine w0 ?_|fail));clear h8 vx hs;exact si
     | succ k =>
       have hdz:decide ((0:Int)<((k+1:Nat):Int))=true:=decide_eq_true oc;have q1:((k+1:Nat):Int)-1=((k:Nat):Int):=oc
       have vk:=ykt (show k<O.length by omega);have lk:k<(il O).length:=by simp;omega
       replace hZ:K=if x<=O.getD k 0 then dnK O x k else k+1:=hZ
       by_cases hle:x<=O.getD k 0
       .have hdl:decide (x<=O.getD k 0)=true:=decide_eq_true hle;rw [if_pos hle] at hZ;(repeat' (first|refine sy ?_|(refine aZ ?_;intros)|refine w0 ?_|fail));refine⟨⟨k,hK.trans hZ,oc⟩,?_,by first|omega|(simp only;omega)⟩;simp only;clear h8 vx vk hs hZ;exact si
       .have hdl:decide (x<=O.getD k 0)=false:=decide_eq_false hle;rw [if_neg hle] at hZ;subst hZ;(repeat' (first|refine sy ?_|(refine aZ ?_;intros)|refine w0 ?_|fail));clear h8 vx vk hs;exact si
  .have he:i=l.length:=oc
   subst he;have hd:decide ((l.length:Int)<((il l).length:Int))=false:=od
   (repeat' (first|refine sy ?_|(refine aZ ?_;intros)|refine w0 ?_|fail));exact hQ.go _ _ _ zcz (.inr rfl) rfl
end Go.Ab.J
namespace Go.Ab.J
open Go Go.Proofs Go.Kp
section
variable{G:zbf}{u:Nat->ByteArray}
theorem yst{s:AS}{N d:Nat}{x y:Operand}{t' ty:TypeId}{pos:String}{af:Array Edge}{g:Option (Nat×Bool)}{a b:Int}(hd:d<N)(hx:ev s x=some (.agg [vi a,vi b]))(hy:ev s y=some (.agg [vi a,vi b])) :
  AOp (cx G) N ⟨some d,.binOp .eql 37 x y t',ty,pos,af,g⟩ (rds x++rds y) s [(2*d,.av (vb true))] :=
 zau hd λw0 E s' a w hR hr=>by have e1:=zvm (hr.ev (zat hR (λ_ h=>by simp [h]) hx));have e2:=zvm (hr.ev (zat hR (λ_ h=>by simp [h]) hy));refine⟨.bool true,?_,.val _,by simp [AV.ids]⟩;have hP:(cx G).P=Tryz.prog:=rfl;simp [execOp,e1,e2,eqGuard,binOp,z4g,hP]
theorem yss{s:AS}{d:Option Nat}{x y:Operand}{t' ty:TypeId}{pos:String}{af:Array Edge}{g:Option (Nat×Bool)}{a b:Int}{R:List Nat}(hx:ev s x=some (.agg [vi a,vi b]))(hy:ev s y=some (.agg [vi a,vi b]))(hs:zly (rds x++rds y) R=true) :
  AFt (cx G) ⟨d,.binOp .eql 37 x y t',ty,pos,af,g⟩ R s:=λN w0 E s' a w hR hr=>by
 have hR:=agr hR hs
 have e1:=zvm (hr.ev ((zas λr h=>hR r om).trans hx))
 have e2:=zvm (hr.ev ((zas λr h=>hR r om).trans hy))
 have h1:za3 (a.eval x):=by rw [e1];exact zvn _ _
 have h2:za3 (a.eval y):=by rw [e2];exact zvn _ _
 refine zjc ?_
 rw [ft_bind];exact zoo _ _ _ _ _ _ h1 h2 (zwe _ _ _ _ h1 h2 λ_=>trivial)
noncomputable abbrev ysk:Func:=Tryz.f3
def ys8(u:Nat->ByteArray)(Q:Exit->AS->Prop)(s:AS):Prop:=∀c,(ysk.body.bind yj2)=some c->AW (cx (zch u)) none ysk.ntmps c Q s
theorem ysj{Q:Exit->AS->Prop}{s:AS}{c:Code}{N:Nat}(e:(ysk.body.bind yj2)=some c)(hN:ysk.ntmps=N)(h:AW (cx (zch u)) none N c Q s):ys8 u Q s:=λc' e'=>by subst hN;exact kaw (e.symm.trans e')▸h
def GoR(u:Nat->ByteArray)(k:Nat)(Q:Exit->AS->Prop)(s:AS):Prop:=∀c,tl k ysk.body=some c->AW (cx (zch u)) none ysk.ntmps c Q s
theorem ysg{k N:Nat}{Q:Exit->AS->Prop}{s:AS}{c:Code}(e:tl k ysk.body=some c)(hN:ysk.ntmps=N)(h:AW (cx (zch u)) none N c Q s):GoR u k Q s:=λc' e'=>by subst hN;exact kaw (e.symm.trans e')▸h
theorem ysi{k N:Nat}{Q:Exit->AS->Prop}{s s':AS}{c:Code}(h:GoR u k Q s')(e:tl k ysk.body=some c)(hN:ysk.ntmps=N)(hs:Sub (zch u) N s s'):AW (cx (zch u)) none N c Q s:=by subst hN;exact zbx hs (h c e)
abbrev stR(most K A X1 X2 ii jj:Int)(ss:List Slip)(ms:List SumR)(PR:List (List Int×List Bool))(n:Nat)(S AM:List Int)(c h:Nat):AS:=[(2*4,.av (.ptr 4 0)),(2*4+1,.cells 25 [vi most,.sl 7 (ss.map Slip.row),.sl 5 (ms.map SumR.row)]),(2*9,.av (.sl 2 (rp PR))),(2*10,.av (vi K)),(2*11,.av (vi A)),(2*12,.av (vi (n:Int))),(2*14,.av (.ptr 14 0)),(2*14+1,.cells 37 [vi X1,vi X2]),(2*16,.av (vi ii)),(2*17,.av (vi jj)),(2*18,.av (.own 1000)),(2*1000+1,.buf 1 3 (il S)),(2*19,.av (.own 1001)),(2*1001+1,.buf 1 3 (il AM)),(2*20,.av (vi (c:Int))),(2*21,.av (vi (h:Int)))]
abbrev st12(most X1 X2 ii jj:Int)(ss:List Slip)(ms:List SumR)(n:Nat)(S AM:List Int)(c:Nat):AS:=[(2*4,.av (.ptr 4 0)),(2*4+1,.cells 25 [vi most,.sl 7 (ss.map Slip.row),.sl 5 (ms.map SumR.row)]),(2*12,.av (vi (n:Int))),(2*14,.av (.ptr 14 0)),(2*14+1,.cells 37 [vi X1,vi X2]),(2*16,.av (vi ii)),(2*17,.av (vi jj)),(2*18,.av (.sl 1 (il S))),(2*19,.av (.sl 1 (il AM))),(2*20,.av (vi (c:Int)))]
abbrev st14(most ii jj:Int)(ss:List Slip)(ms:List SumR)(n:Nat)(AM:List Int)(c:Nat):AS:=[(2*4,.av (.ptr 4 0)),(2*4+1,.cells 25 [vi most,.sl 7 (ss.map Slip.row),.sl 5 (ms.map SumR.row)]),(2*12,.av (vi (n:Int))),(2*16,.av (vi ii)),(2*17,.av (vi jj)),(2*19,.av (.sl 1 (il AM))),(2*20,.av (vi (c:Int)))]
abbrev st15(most jj:Int)(ss:List Slip)(ms:List SumR)(n c:Nat):AS:=[(2*4,.av (.ptr 4 0)),(2*4+1,.cells 25 [vi most,.sl 7 (ss.map Slip.row),.sl 5 (ms.map SumR.row)]),(2*12,.av (vi (n:Int))),(2*17,.av (vi jj)),(2*20,.av (vi (c:Int)))]
attribute [local irreducible] AOp AW ADr AFn ze1 AFt AOpJ
attribute [local irreducible] GoR
set_option maxRecDepth 20000
set_option maxHeartbeats 16000000
section
variable{most K A X1 X2 ii jj:Int}{ss:List Slip}{ms:List SumR}{PR:List (List Int×List Bool)}{n:Nat}{S AM:List Int}{c h:Nat}{R:List Int×List Bool}{T W:List Int}{SV:Int}{P:AS->Prop}{Q:Exit->AS->Prop}
theorem cnf0{P G:Prop}(n:P)(h:Wr P->G:=by(intro n;first|((with_reducible apply kC);first|exact gB ⟨_,hpl,.mk rfl n.p⟩|exact gB ⟨_,hso,.mk rfl n.p⟩|exact gB ⟨_,hha,.mk rfl n.p⟩|exact gK n.p|exact gS n.p)|exact⟨_,hpl,n.p⟩|exact⟨_,hso,n.p⟩|exact⟨_,hha,n.p⟩|exact sk n.p|exact ap n.p)):G:=h ⟨n⟩
theorem ys0(hlt:h<n)(hPR:PR[h]?=some R)(hpl:AFn (cx (zch u)) 12 [bk most ss ms,.sl 1 (il R.1),.sl 1 (bl R.2)] (.tup [.sl 1 (il T),.sl 1 (il W),vi 0]))(hso:AFn (cx (zch u)) 13 [bk most ss ms,.sl 1 (il T),vi K,vi A] (vi SV))(hTl:T.length=ss.length)(hS:S.length<=100000)(_hA:AM.length<=100000)(hnn:n<=100000)(_hcl:c<=h)(hha:AFn (cx (zch u)) 14 [.sl 1 (il W),vi jj] (vb false))(hs0:ss.length=0)
  (hP:∀s',Sub (zch u) ysk.ntmps s' (stR most K A X1 X2 ii jj ss ms PR n (S++[SV]) AM c (h+1))->P s'):ys8 u (zii P Q) (stR most K A X1 X2 ii jj ss ms PR n S AM c h):=by
 have hd:decide ((h:Int)<(n:Int))=true:=by simp;omega
 have hi1:vi ((h+1:Nat):Int)=vi ((h:Int)+1):=od
 have hrow:=zrg hPR
 have hil:h<(rp PR).length:=by simpa using (kab.1 hPR).1
 have hb1:(il S).length+1<=1000000000:=by simp;omega
 have hTq:decide (((il T).length:Int)=((ss.map Slip.row).length:Int))=true:=decide_eq_true (by simp [hTl])
 have hTn:(!decide (((il T).length:Int)=((ss.map Slip.row).length:Int)))=false:=by rw [hTq];rfl
 have hTe:(il T).length=ss.length:=by simp [hTl]
 have hTp:decide ((0:Int)<((il T).length:Int))=false:=decide_eq_false oc
 have q0:(!decide ((0:Int)=0))=false:=rfl
 have q9:decide ((0:Int)=0)=true:=rfl
 refine ysj rfl Tryz.ntmps3 ?_
 unfold stR at hP |-
 (repeat' (first|refine sy ?_|(refine aZ ?_;intros)|refine cnf0 ?_|fail))
 rw [hi1,show il (S++[SV])=il S++[[vi SV]] by simp]
 refine zbg (rn1 1000 126) ?_ rfl rfl
 exact sr
theorem ysz(hlt:h<n)(hPR:PR[h]?=some R)(hpl:AFn (cx (zch u)) 12 [bk most ss ms,.sl 1 (il R.1),.sl 1 (bl R.2)] (.tup [.sl 1 (il T),.sl 1 (il W),vi 0]))(hso:AFn (cx (zch u)) 13 [bk most ss ms,.sl 1 (il T),vi K,vi A] (vi SV))(hTl:T.length=ss.length)(hS:S.length<=100000)(_hA:AM.length<=100000)(hnn:n<=100000)(hcl:c<=h)(hha:AFn (cx (zch u)) 14 [.sl 1 (il W),vi jj] (vb true))(hs0:ss.length=0)
  (hP:∀s',Sub (zch u) ysk.ntmps s' (stR most K A X1 X2 ii jj ss ms PR n (S++[SV]) AM (c+1) (h+1))->P s'):ys8 u (zii P Q) (stR most K A X1 X2 ii jj ss ms PR n S AM c h):=by
 have hd:decide ((h:Int)<(n:Int))=true:=by simp;omega
 have hi1:vi ((h+1:Nat):Int)=vi ((h:Int)+1):=od
 have hc1:vi ((c+1:Nat):Int)=vi ((c:Int)+1):=od
 have hrow:=zrg hPR
 have hil:h<(rp PR).length:=by simpa using (kab.1 hPR).1
 have hb1:(il S).length+1<=1000000000:=by simp;omega
 have hTq:decide (((il T).length:Int)=((ss.map Slip.row).length:Int))=true:=decide_eq_true (by simp [hTl])
 have hTn:(!decide (((il T).length:Int)=((ss.map Slip.row).length:Int)))=false:=by rw [hTq];rfl
 have hTe:(il T).length=ss.length:=by simp [hTl]
 have hTp:decide ((0:Int)<((il T).length:Int))=false:=decide_eq_false oc
 have q0:(!decide ((0:Int)=0))=false:=rfl
 have q9:decide ((0:Int)=0)=true:=rfl
 refine ysj rfl Tryz.ntmps3 ?_
 unfold stR at hP |-
 (repeat' (first|refine sy ?_|(refine aZ ?_;intros)|refine cnf0 ?_|fail))
 rw [hc1,hi1,show il (S++[SV])=il S++[[vi SV]] by simp]
 refine zbg (rn1 1000 126) ?_ rfl rfl
 exact sr
theorem ys2(hlt:h<n)(hPR:PR[h]?=some R)(hpl:AFn (cx (zch u)) 12 [bk most ss ms,.sl 1 (il R.1),.sl 1 (bl R.2)] (.tup [.sl 1 (il T),.sl 1 (il W),vi 0]))(hso:AFn (cx (zch u)) 13 [bk most ss ms,.sl 1 (il T),vi K,vi A] (vi SV))(hTl:T.length=ss.length)(hS:S.length<=100000)(hA:AM.length<=100000)(hnn:n<=100000)(_hcl:c<=h)(hha:AFn (cx (zch u)) 14 [.sl 1 (il W),vi jj] (vb false)){k:Nat}(hii:ii=(k:Int))(hk:k<ss.length)
  (hP:∀s',Sub (zch u) ysk.ntmps s' (stR most K A X1 X2 ii jj ss ms PR n (S++[SV]) (AM++[T.getD k 0]) c (h+1))->P s'):ys8 u (zii P Q) (stR most K A X1 X2 ii jj ss ms PR n S AM c h):=by
 have hd:decide ((h:Int)<(n:Int))=true:=by simp;omega
 have hi1:vi ((h+1:Nat):Int)=vi ((h:Int)+1):=od
 have hrow:=zrg hPR
 have hil:h<(rp PR).length:=by simpa using (kab.1 hPR).1
 have hb1:(il S).length+1<=1000000000:=by simp;omega
 have hTq:decide (((il T).length:Int)=((ss.map Slip.row).length:Int))=true:=decide_eq_true (by simp [hTl])
 have hTn:(!decide (((il T).length:Int)=((ss.map Slip.row).length:Int)))=false:=by rw [hTq];rfl
 have hTe:(il T).length=ss.length:=by simp [hTl]
 have hTp:decide ((0:Int)<((il T).length:Int))=true:=decide_eq_true oc
 subst hii
 have vk:=ykt (show k<T.length by omega)
 have lk:k<(il T).length:=by simp;omega
 have hb2:(il AM).length+1<=1000000000:=by simp;omega
 have q0:(!decide ((0:Int)=0))=false:=rfl
 have q9:decide ((0:Int)=0)=true:=rfl
 refine ysj rfl Tryz.ntmps3 ?_
 unfold stR at hP |-
 (repeat' (first|refine sy ?_|(refine aZ ?_;intros)|refine cnf0 ?_|fail))
 rw [hi1,show il (S++[SV])=il S++[[vi SV]] by simp,show il (AM++[T.getD k 0])=il AM++[[vi (T.getD k 0)]] by simp]
 refine zbg (rn2 1000 126 1001 136) ?_ rfl rfl
 exact sr
theorem ys1(hlt:h<n)(hPR:PR[h]?=some R)(hpl:AFn (cx (zch u)) 12 [bk most ss ms,.sl 1 (il R.1),.sl 1 (bl R.2)] (.tup [.sl 1 (il T),.sl 1 (il W),vi 0]))(hso:AFn (cx (zch u)) 13 [bk most ss ms,.sl 1 (il T),vi K,vi A] (vi SV))(hTl:T.length=ss.length)(hS:S.length<=100000)(hA:AM.length<=100000)(hnn:n<=100000)(hcl:c<=h)(hha:AFn (cx (zch u)) 14 [.sl 1 (il W),vi jj] (vb true)){k:Nat}(hii:ii=(k:Int))(hk:k<ss.length)
  (hP:∀s',Sub (zch u) ysk.ntmps s' (stR most K A X1 X2 ii jj ss ms PR n (S++[SV]) (AM++[T.getD k 0]) (c+1) (h+1))->P s'):ys8 u (zii P Q) (stR most K A X1 X2 ii jj ss ms PR n S AM c h):=by
 have hd:decide ((h:Int)<(n:Int))=true:=by simp;omega
 have hi1:vi ((h+1:Nat):Int)=vi ((h:Int)+1):=od
 have hc1:vi ((c+1:Nat):Int)=vi ((c:Int)+1):=od
 have hrow:=zrg hPR
 have hil:h<(rp PR).length:=by simpa using (kab.1 hPR).1
 have hb1:(il S).length+1<=1000000000:=by simp;omega
 have hTq:decide (((il T).length:Int)=((ss.map Slip.row).length:Int))=true:=decide_eq_true (by simp [hTl])
 have hTn:(!decide (((il T).length:Int)=((ss.map Slip.row).length:Int)))=false:=by rw [hTq];rfl
 have hTe:(il T).length=ss.length:=by simp [hTl]
 have hTp:decide ((0:Int)<((il T).length:Int))=true:=decide_eq_true oc
 subst hii
 have vk:=ykt (show k<T.length by omega)
 have lk:k<(il T).length:=by simp;omega
 have hb2:(il AM).length+1<=1000000000:=by simp;omega
 have q0:(!decide ((0:Int)=0))=false:=rfl
 have q9:decide ((0:Int)=0)=true:=rfl
 refine ysj rfl Tryz.ntmps3 ?_
 unfold stR at hP |-
 (repeat' (first|refine sy ?_|(refine aZ ?_;intros)|refine cnf0 ?_|fail))
 rw [hc1,hi1,show il (S++[SV])=il S++[[vi SV]] by simp,show il (AM++[T.getD k 0])=il AM++[[vi (T.getD k 0)]] by simp]
 refine zbg (rn2 1000 126 1001 136) ?_ rfl rfl
 exact sr
theorem cnf1{P G:Prop}(n:P)(h:Wr P->G:=by(intro n;first|((with_reducible apply kC);first|exact gB ⟨_,hsum,.mk rfl n.p⟩|exact gB ⟨_,hfa,.mk rfl n.p⟩|exact gB ⟨_,z7j _ _,.mk rfl n.p⟩|exact gK n.p|exact gS n.p)|exact⟨_,hsum,n.p⟩|exact⟨_,hfa,n.p⟩|exact⟨_,z7j _ _,n.p⟩|exact sk n.p|exact ap n.p)):G:=h ⟨n⟩
theorem enf0{G:Prop}(h:G:=by((repeat' (first|refine sy ?_|(refine aZ ?_;intros)|refine cnf1 ?_|fail));refine fe ?_;rfl)):G:=h
theorem end15(hsum:AFn (cx (zch u)) 7 [] (vb true))(hfa:ms.length≠0->AFn (cx (zch u)) 19 [bk most ss ms,vi jj] (.tup [vi (zy9 (c:Nat) (n:Nat)),vi 0]))(hQ:∀e s,((e=.normal\/e=.ret)/\zck (cx (zch u)) s ysk.results.toList=some (vb true))->Q e s):GoR u 16 Q (st15 most jj ss ms n c):=by
 by_cases hms:ms.length=0
 .have hdm:decide (((ms.map SumR.row).length:Int)=0)=true:=oa hms
  have q0:(!decide ((0:Int)=0))=false:=rfl;have q9:decide ((0:Int)=0)=true:=rfl;refine ysg rfl Tryz.ntmps3 ?_;exact enf0
 .have hdm:decide (((ms.map SumR.row).length:Int)=0)=false:=oa hms
  replace hfa:=hfa hms;have qz:decide (zy9 (c:Nat) (n:Nat)=zy9 (c:Nat) (n:Nat))=true:=decide_eq_true rfl;have q0:(!decide ((0:Int)=0))=false:=rfl;have q9:decide ((0:Int)=0)=true:=rfl;refine ysg rfl Tryz.ntmps3 ?_;exact enf0
theorem cnf2{P G:Prop}(n:P)(h:Wr P->G:=by(intro n;first|((with_reducible apply kC);first|exact gB ⟨_,ham,.mk rfl n.p⟩|exact gB ⟨_,hst2,.mk rfl n.p⟩|exact gB ⟨_,hsl,.mk rfl n.p⟩|exact gK n.p|exact gS n.p)|exact⟨_,ham,n.p⟩|exact⟨_,hst2,n.p⟩|exact⟨_,hsl,n.p⟩|exact sk n.p|exact ap n.p)):G:=h ⟨n⟩
theorem ys4(h15:GoR u 16 Q (st15 most jj ss ms n c))(hs0:ss.length=0):GoR u 15 Q (st14 most ii jj ss ms n AM c):=by
 have hsr:(ss.map Slip.row).length=ss.length:=od
 have hsp:decide ((0:Int)<((ss.map Slip.row).length:Int))=false:=decide_eq_false oc;have q0:(!decide ((0:Int)=0))=false:=rfl;have q9:decide ((0:Int)=0)=true:=rfl;refine ysg rfl Tryz.ntmps3 ?_;(repeat' (first|exact ysi h15 rfl Tryz.ntmps3 oT|refine sy ?_|(refine aZ ?_;intros)|refine cnf2 ?_|fail))
theorem ys5{L:List Int}(h15:GoR u 16 Q (st15 most jj ss ms n c))(hs0:¬ss.length=0)(ham:AFn (cx (zch u)) 17 [bk most ss ms,vi ii] (.tup [.sl 1 (il L),vi 0]))(hst2:AFn (cx (zch u)) 15 [.sl 1 (il AM)] (.sl 1 (il L)))(hl:L.length<=100000):GoR u 15 Q (st14 most ii jj ss ms n AM c):=by
 have hsr:(ss.map Slip.row).length=ss.length:=od
 have hsp:decide ((0:Int)<((ss.map Slip.row).length:Int))=true:=decide_eq_true oc;have hsl:=zg5 (G:=zch u) L L hl hl;rw [decide_eq_true rfl] at hsl;have q0:(!decide ((0:Int)=0))=false:=rfl;have q9:decide ((0:Int)=0)=true:=rfl;refine ysg rfl Tryz.ntmps3 ?_;(repeat' (first|exact ysi h15 rfl Tryz.ntmps3 oT|refine sy ?_|(refine aZ ?_;intros)|refine cnf2 ?_|fail))
theorem cnf3{P G:Prop}(n:P)(h:Wr P->G:=by(intro n;first|((with_reducible apply kC);first|exact gB ⟨_,hst1,.mk rfl n.p⟩|exact gB ⟨_,hto,.mk rfl n.p⟩|exact gK n.p|exact gS n.p)|exact⟨_,hst1,n.p⟩|exact⟨_,hto,n.p⟩|exact sk n.p|exact ap n.p)):G:=h ⟨n⟩
theorem ys6{L:List Int}(hLl:L.length<=100000)(h14:GoR u 15 Q (st14 most ii jj ss ms n AM c))(hst1:AFn (cx (zch u)) 15 [.sl 1 (il S)] (.sl 1 (il L)))(t1:0<L.length)(t2:L.getD 0 0=X1)(t3:L.getD (L.length-1) 0=X2):GoR u 13 Q (st12 most X1 X2 ii jj ss ms n S AM c):=by
 have v0:=ykt t1;have vl:=ykt (show L.length-1<L.length by omega);rw [t2] at v0;rw [t3] at vl;have l0:0<(il L).length:=oa t1
 have ll:L.length-1<(il L).length:=by simp;omega
 have q1:((il L).length:Int)-1=((L.length-1:Nat):Int):=by simp;omega
 have hto:=to_a (G:=zch u) X1 X2;have q0:(!decide ((0:Int)=0))=false:=rfl;have q9:decide ((0:Int)=0)=true:=rfl;refine ysg rfl Tryz.ntmps3 ?_
 (repeat' (first|exact ysi h14 rfl Tryz.ntmps3 oT|(with_reducible refine gED ?_ ot)|(refine g1 ?_ oo ⟨z27 oe rfl rfl,z1y rfl rfl rfl⟩)|refine sy ?_|(refine aZ ?_;intros)|refine cnf3 ?_|fail))
end
end
section
variable{G:zbf}{u:Nat->ByteArray}
attribute [local irreducible] AOp AW ADr AFn ze1 AFt AOpJ
attribute [local irreducible] GoR
set_option maxRecDepth 20000
set_option maxHeartbeats 16000000
section
variable{most K A X1 X2 ii jj:Int}{ss:List Slip}{ms:List SumR}{PR:List (List Int×List Bool)}{n:Nat}{S AM:List Int}{c h:Nat}{R:List Int×List Bool}{T W:List Int}{SV:Int}{P:AS->Prop}{Q:Exit->AS->Prop}
theorem mid9{slip sum:Int}(Sf Af:Nat->List Int)(cf:Nat->Nat)(hS0:Sf 0=[])(hA0:Af 0=[])(hc0:cf 0=0)(_hn6:ss.length<=20)(_hm6:ms.length<=20)(hq0:0<=slip)(hq1:slip<256)(ho0:0<=sum)(ho1:sum<256)(hii:slip % max 1 ((ss.map Slip.row).length:Int)=ii)(hjj:sum % max 1 ((ms.map SumR.row).length:Int)=jj)(hnn:n<=100000)
  (hstep:∀h,h<n->∃(R:List Int×List Bool) (T W:List Int) (SV:Int) (b:Bool),PR[h]?=some R/\AFn (cx (zch u)) 12 [bk most ss ms,.sl 1 (il R.1),.sl 1 (bl R.2)] (.tup [.sl 1 (il T),.sl 1 (il W),vi 0])/\AFn (cx (zch u)) 13 [bk most ss ms,.sl 1 (il T),vi K,vi A] (vi SV)/\T.length=ss.length/\AFn (cx (zch u)) 14 [.sl 1 (il W),vi jj] (vb b)/\(Sf h).length<=100000/\(Af h).length<=100000/\cf h<=h/\Sf (h+1)=Sf h++[SV]/\cf (h+1)=(if b=true then cf h+1 else cf h)/\(ss.length=0->Af (h+1)=Af h)/\(ss.length≠0->∃k:Nat,ii=(k:Int)/\k<ss.length/\Af (h+1)=Af h++[T.getD k 0]))
  (h12:GoR u 13 Q (st12 most X1 X2 ii jj ss ms n (Sf n) (Af n) (cf n))):GoR u 9 Q [(2*1,.av (.val (.int .u8 slip))),(2*2,.av (.val (.int .u8 sum))),(2*4,.av (.ptr 4 0)),(2*4+1,.cells 25 [vi most,.sl 7 (ss.map Slip.row),.sl 5 (ms.map SumR.row)]),(2*9,.av (.sl 2 (rp PR))),(2*10,.av (vi K)),(2*11,.av (vi A)),(2*12,.av (vi (n:Int))),(2*14,.av (.ptr 14 0)),(2*14+1,.cells 37 [vi X1,vi X2])]:=by
 have hp1:0<=slip/\0<max 1 ((ss.map Slip.row).length:Int):=⟨hq0,oc⟩
 have hp2:0<=sum/\0<max 1 ((ms.map SumR.row).length:Int):=⟨ho0,oc⟩
 refine ysg rfl Tryz.ntmps3 ?_
 (repeat' (first|refine sy ?_|(refine aZ ?_;intros)|refine w0 ?_|fail))
 rw [hii,hjj]
 refine zbx (zbd 18 1000 1 3 rfl rfl) ?_
 refine zbx (zbd 19 1001 1 3 rfl rfl) ?_
 refine zam n (λh=>stR most K A X1 X2 ii jj ss ms PR n (Sf h) (Af h) (cf h) h) ?_ ?_
 .rw [hS0,hA0,hc0];exact si
 .intro h hhl;rcases kae h n with hlt|hge
  .obtain⟨R,T,W,SV,b,hPR,hpl,hso,hTl,hha,hS,hA,hcl,e1,e2,e3,e4⟩:=hstep h hlt;rw [e1,e2];by_cases hs0:ss.length=0
   .rw [e3 hs0];cases b
    .rw [if_neg od];exact ys0 hlt hPR hpl hso hTl hS hA hnn hcl hha hs0 (λs' h=>⟨hlt,h⟩) _ rfl
    .rw [if_pos rfl];exact ysz hlt hPR hpl hso hTl hS hA hnn hcl hha hs0 (λs' h=>⟨hlt,h⟩) _ rfl
   .obtain⟨k,hk,hkl,e5⟩:=e4 hs0;rw [e5];cases b
    .rw [if_neg od];exact ys2 hlt hPR hpl hso hTl hS hA hnn hcl hha hk hkl (λs' h=>⟨hlt,h⟩) _ rfl
    .rw [if_pos rfl];exact ys1 hlt hPR hpl hso hTl hS hA hnn hcl hha hk hkl (λs' h=>⟨hlt,h⟩) _ rfl
  .obtain rfl:h=n:=oc
   have hd:decide ((h:Int)<(h:Int))=false:=od
   clear hstep;refine zbx (ysh 18 1000 rfl rfl oe) ?_;refine zbx (ysh 19 1001 rfl rfl oe) ?_;(repeat' (first|exact ysi h12 rfl Tryz.ntmps3 oT|refine sy ?_|(refine aZ ?_;intros)|refine w0 ?_|fail))
end
theorem cng0{P G:Prop}(n:P)(h:Wr P->G:=by(intro n;first|((with_reducible apply kC);first|exact gB ⟨_,fit_a _ _ _,.mk rfl n.p⟩|exact gB ⟨_,hsum,.mk rfl n.p⟩|exact gB ⟨_,hpa,.mk rfl n.p⟩|exact gB ⟨_,hw,.mk rfl n.p⟩|exact gB ⟨_,hh,.mk rfl n.p⟩|exact gB ⟨_,hsu,.mk rfl n.p⟩|exact gK n.p|exact gS n.p)|exact⟨_,fit_a _ _ _,n.p⟩|exact⟨_,hsum,n.p⟩|exact⟨_,hpa,n.p⟩|exact⟨_,hw,n.p⟩|exact⟨_,hh,n.p⟩|exact⟨_,hsu,n.p⟩|exact sk n.p|exact ap n.p)):G:=h ⟨n⟩
section
variable{most K A X1 X2 slip sum kind:Int}{ss:List Slip}{ms:List SumR}{PR:List (List Int×List Bool)}{n:Nat}{Q:Exit->AS->Prop}
theorem eng0{G:Prop}(h:G:=by((repeat' (first|(with_reducible refine gED ?_ ot)|(refine g1 ?_ oo ⟨yst oe rfl rfl,yss rfl rfl rfl⟩)|refine sy ?_|(refine aZ ?_;intros)|refine cng0 ?_|fail));refine fe ?_;rfl)):G:=h
theorem ysr(hsum:AFn (cx (zch u)) 7 [] (vb true))(hd1:decide ((ss.length<=20/\ms.length<=20)/\zak most ss ms=0)=false)(hQ:∀e s,((e=.normal\/e=.ret)/\zck (cx (zch u)) s ysk.results.toList=some (vb true))->Q e s):GoR u 0 Q (zhk [bk most ss ms,.val (.int .u8 slip),.val (.int .u8 sum),.val (.int .u8 kind)] 0):=by refine ysg rfl Tryz.ntmps3 ?_;exact eng0
theorem ysn(hsum:AFn (cx (zch u)) 7 [] (vb true))(hd1:decide ((ss.length<=20/\ms.length<=20)/\zak most ss ms=0)=true)(hpa:AFn (cx (zch u)) 8 [bk most ss ms] (.sl 2 (rp PR)))(hw:AFn (cx (zch u)) 9 [.val (.int .u8 kind)] (.tup [vi K,vi A]))(hh:AFn (cx (zch u)) 10 [bk most ss ms] (.tup [vi (n:Int),vi 0]))(hlp:(rp PR).length=n)(hsu:AFn (cx (zch u)) 11 [bk most ss ms,vi K,vi A] (.tup [.agg [vi 0,vi 0],vi 9]))(hn0:n=0)(hQ:∀e s,((e=.normal\/e=.ret)/\zck (cx (zch u)) s ysk.results.toList=some (vb true))->Q e s):GoR u 0 Q (zhk [bk most ss ms,.val (.int .u8 slip),.val (.int .u8 sum),.val (.int .u8 kind)] 0):=by
 have hdh:decide ((n:Int)=0)=true:=by simp [hn0]
 have hdq:decide ((n:Int)=((rp PR).length:Int))=true:=by rw [hlp];simp
 have hdn:(!decide ((n:Int)=((rp PR).length:Int)))=false:=by rw [hdq];rfl
 have q0:(!decide ((0:Int)=0))=false:=rfl;have q9:decide ((0:Int)=0)=true:=rfl;refine ysg rfl Tryz.ntmps3 ?_;exact eng0
theorem ysq(_hsum:AFn (cx (zch u)) 7 [] (vb true))(hd1:decide ((ss.length<=20/\ms.length<=20)/\zak most ss ms=0)=true)(hpa:AFn (cx (zch u)) 8 [bk most ss ms] (.sl 2 (rp PR)))(hw:AFn (cx (zch u)) 9 [.val (.int .u8 kind)] (.tup [vi K,vi A]))(hh:AFn (cx (zch u)) 10 [bk most ss ms] (.tup [vi (n:Int),vi 0]))(hlp:(rp PR).length=n)(hsu:AFn (cx (zch u)) 11 [bk most ss ms,vi K,vi A] (.tup [.agg [vi X1,vi X2],vi 0]))(hn0:¬n=0)(h9:GoR u 9 Q [(2*1,.av (.val (.int .u8 slip))),(2*2,.av (.val (.int .u8 sum))),(2*4,.av (.ptr 4 0)),(2*4+1,.cells 25 [vi most,.sl 7 (ss.map Slip.row),.sl 5 (ms.map SumR.row)]),(2*9,.av (.sl 2 (rp PR))),(2*10,.av (vi K)),(2*11,.av (vi A)),(2*12,.av (vi (n:Int))),(2*14,.av (.ptr 14 0)),(2*14+1,.cells 37 [vi X1,vi X2])]):GoR u 0 Q (zhk [bk most ss ms,.val (.int .u8 slip),.val (.int .u8 sum),.val (.int .u8 kind)] 0):=by
 have hdh:decide ((n:Int)=0)=false:=decide_eq_false oc;have hdq:decide ((n:Int)=((rp PR).length:Int))=true:=by rw [hlp];simp
 have hdn:(!decide ((n:Int)=((rp PR).length:Int)))=false:=by rw [hdq];rfl
 have q0:(!decide ((0:Int)=0))=false:=rfl;have q9:decide ((0:Int)=0)=true:=rfl;refine ysg rfl Tryz.ntmps3 ?_;(repeat' (first|exact ysi h9 rfl Tryz.ntmps3 oT|(with_reducible refine gED ?_ ot)|refine sy ?_|(refine aZ ?_;intros)|refine cng0 ?_|fail))
end
end
end Go.Ab.J
namespace Go.Ab.J
open Go Go.Proofs Go.Kp
set_option maxHeartbeats 4000000
theorem ysl(u:Nat->ByteArray)(hsum:AFn (cx (zch u)) 7 [] (vb true))(most:Int)(ss:List Slip)(ms:List SumR)(slip sum kind:Int)(hq0:0<=slip)(hq1:slip<256)(ho0:0<=sum)(ho1:sum<256)(hk0:0<=kind)(hk1:kind<256) :
  Top (cx (zch u)) 3 [bk most ss ms,.val (.int .u8 slip),.val (.int .u8 sum),.val (.int .u8 kind)] (vb true):=by
 refine top_by Tryz.func3 ot rfl Tryz.ntmps3 rfl rfl ?_ rfl
 refine zab λQ hQ=>?_
 by_cases hfit:(ss.length<=20/\ms.length<=20)/\zak most ss ms=0
 case neg =>have hd1:decide ((ss.length<=20/\ms.length<=20)/\zak most ss ms=0)=false:=decide_eq_false hfit;exact ysr hsum hd1 hQ _ rfl
 have hd1:decide ((ss.length<=20/\ms.length<=20)/\zak most ss ms=0)=true:=decide_eq_true hfit
 obtain⟨⟨hn,hm⟩,hc⟩:=hfit
 have hg:=(za2 most ss ms).1 hc
 have hpa:=zro (G:=zch u) hg
 have hw:=whatL_a (G:=zch u) kind hk0 hk1
 have hwo:=what_ok hk0
 have hh:=zkg (u:=u) most ss ms hn hm
 rw [show zr3 most ss ms=(((zah most ss ms).length:Int),0) by simp [zr3,hc]] at hh
 have hsu:=sum_a (u:=u) most ss ms (yki kind) (ykj kind) hn hm
 have hL:=look_if hg
 have hlp:(rp (zaj most ss ms)).length=(zah most ss ms).length:=by rw [zg9 hg];simp
 have hdn:(!decide (((zah most ss ms).length:Int)=((rp (zaj most ss ms)).length:Int)))=false:=by rw [hlp];simp
 have hdq:decide (((zah most ss ms).length:Int)=((rp (zaj most ss ms)).length:Int))=true:=by rw [hlp];simp
 have hKz:=zy0 hwo
 generalize yki kind=K at *
 generalize ykj kind=A at *
 by_cases hH:(zah most ss ms).length=0
 .have f1:zyr most ss ms K A=((0,0),9):=by rw [zyr,hwo,hL,if_pos hH,if_pos oe]
  rw [f1] at hsu;have hdh:decide (((zah most ss ms).length:Int)=0)=true:=oa hH
  exact ysn hsum hd1 hpa hw hh hlp hsu hH hQ _ rfl
 have hdh:decide (((zah most ss ms).length:Int)=0)=false:=oa hH
 rw [if_neg hH] at hL
 have f1:zyr most ss ms K A=(zh2 (zzd most ss ms K A) (zah most ss ms).length,0):=by rw [zyr,hwo,hL,if_neg od]
 rw [f1] at hsu
 obtain⟨t1,t2,t3⟩:=ysp (most:=most) (ss:=ss) (ms:=ms) K A oc
 have hHl:=zfd hg
 have sl1:(yls ((zah most ss ms).map (yri ss K A))).length<=100000:=by have:=yqr ((zah most ss ms).map (yri ss K A));simp at this;omega
 have hst1:=ysm (G:=zch u) ((zah most ss ms).map (yri ss K A)) oy
 have hro:∀h,h<(zah most ss ms).length->(zaj most ss ms)[h]?=some (toR ss ((zah most ss ms).getD h d12)):=λh hh=>by rw [zg9 hg];simp [hh]
 have n6:=hg.nss
 have m6:=hg.nms
 generalize hX:zh2 (zzd most ss ms K A) (zah most ss ms).length=X at *
 have hi0:0<=slip % max 1 ((ss.map Slip.row).length:Int)/\(0<ss.length->slip % max 1 ((ss.map Slip.row).length:Int)<(ss.length:Int)):=by refine⟨Int.emod_nonneg _ oc,λh=>?_⟩;have:=Int.emod_lt_of_pos slip (show 0<max 1 ((ss.map Slip.row).length:Int) by omega);simp at this |-;omega
 have hj0:0<=sum % max 1 ((ms.map SumR.row).length:Int)/\(0<ms.length->sum % max 1 ((ms.map SumR.row).length:Int)<(ms.length:Int)):=by refine⟨Int.emod_nonneg _ oc,λh=>?_⟩;have:=Int.emod_lt_of_pos sum (show 0<max 1 ((ms.map SumR.row).length:Int) by omega);simp at this |-;omega
 have hp1:0<=slip/\0<max 1 ((ss.map Slip.row).length:Int):=⟨hq0,oc⟩
 have hp2:0<=sum/\0<max 1 ((ms.map SumR.row).length:Int):=⟨ho0,oc⟩
 obtain⟨ii,hii⟩:∃z,slip % max 1 ((ss.map Slip.row).length:Int)=z:=⟨_,rfl⟩
 obtain⟨jj,hjj⟩:∃z,sum % max 1 ((ms.map SumR.row).length:Int)=z:=⟨_,rfl⟩
 rw [hii] at hi0
 rw [hjj] at hj0
 have hfa:ms.length≠0->AFn (cx (zch u)) 19 [bk most ss ms,vi jj] (.tup [vi (zy9 (zcg (zwn most ss ms jj) (zah most ss ms).length:Nat) ((zah most ss ms).length:Nat)),vi 0]):=λhms=>by
  have hfa:=zuj (u:=u) most ss ms jj hn hm;have hos:zgc ms jj=0:=by have:=hj0.2 oc;rw [zgc,if_pos (decide_eq_true oc)]
  rw [show zge most ss ms jj=(zy9 (zcg (zwn most ss ms jj) (zah most ss ms).length:Nat) ((zah most ss ms).length:Nat),0) by rw [zge,hos,hL,if_neg od,yso _ _ oc];rfl] at hfa;exact hfa
 have h15:=end15 (most:=most) (ss:=ss) (jj:=jj) hsum hfa hQ
 have hHn:(zah most ss ms).length<=100000:=oc
 have hsl1:∀h,(((zah most ss ms).take h).map (yri ss K A)).length<=100000:=λh=>by simp;omega
 have hstep:∀h,h<(zah most ss ms).length->∃W:List Int,(zaj most ss ms)[h]?=some (toR ss ((zah most ss ms).getD h d12))/\AFn (cx (zch u)) 12 [bk most ss ms,.sl 1 (il (toR ss ((zah most ss ms).getD h d12)).1),.sl 1 (bl (toR ss ((zah most ss ms).getD h d12)).2)] (.tup [.sl 1 (il (yqj ss ((zah most ss ms).getD h d12))),.sl 1 (il W),vi 0])/\AFn (cx (zch u)) 13 [bk most ss ms,.sl 1 (il (yqj ss ((zah most ss ms).getD h d12))),vi K,vi A] (vi (yri ss K A ((zah most ss ms).getD h d12)))/\(yqj ss ((zah most ss ms).getD h d12)).length=ss.length/\AFn (cx (zch u)) 14 [.sl 1 (il W),vi jj] (vb (decide (jj∈W)))/\zcg (zwn most ss ms jj) (h+1)=if decide (jj∈W)=true then zcg (zwn most ss ms jj) h+1 else zcg (zwn most ss ms jj) h:=λh hlt=>by
  have hp:=zv9 hlt;have hmem:=ziu hg hp;obtain⟨y1,y2,y3⟩:=yqh hg hp;have hwl:(zan ss ms (zc0 ss ((zah most ss ms).getD h d12))).length<=100000:=by have:=yp9 ss ms (zc0 ss ((zah most ss ms).getD h d12));omega
  have hR1:(toR ss ((zah most ss ms).getD h d12)).1.length<=100000:=by simp [toR];omega
  have hpl:=z9z (u:=u) most ss ms (toR ss ((zah most ss ms).getD h d12)).1 (toR ss ((zah most ss ms).getD h d12)).2 hn hm hR1;rw [y1,y2,y3] at hpl;exact⟨_,hro h hlt,hpl,zvj (G:=zch u) most ss ms (yqj ss ((zah most ss ms).getD h d12)) K A hKz.1 hn (yqm n6 _) (yre hmem.2),yqm n6 _,hasR_a (G:=zch u) _ jj hwl,rfl⟩
 have h9:GoR u 9 Q [(2*1,.av (.val (.int .u8 slip))),(2*2,.av (.val (.int .u8 sum))),(2*4,.av (.ptr 4 0)),(2*4+1,.cells 25 [vi most,.sl 7 (ss.map Slip.row),.sl 5 (ms.map SumR.row)]),(2*9,.av (.sl 2 (rp (zaj most ss ms)))),(2*10,.av (vi K)),(2*11,.av (vi A)),(2*12,.av (vi ((zah most ss ms).length:Int))),(2*14,.av (.ptr 14 0)),(2*14+1,.cells 37 [vi X.1,vi X.2])]:=by
  by_cases hs0:ss.length=0
  .have h12:=ys6 (most:=most) (ii:=ii) (AM:=[]) sl1 (ys4 (ii:=ii) (AM:=[]) h15 hs0) hst1 t1 t2 t3;refine mid9 (λh=>((zah most ss ms).take h).map (yri ss K A)) (λ_=>[]) (zcg (zwn most ss ms jj)) od od rfl hn hm hq0 hq1 ho0 ho1 hii hjj hHn (λh hlt=>?_) (by rw [kdl];exact h12);obtain⟨W,s1,s2,s3,s4,s5,s6⟩:=hstep h hlt
   exact⟨_,_,W,_,_,s1,s2,s3,s4,s5,hsl1 h,od,zjz _ h,ysf _ _ hlt,s6,λ_=>rfl,λh=>absurd hs0 h⟩
  .obtain⟨ki,hki⟩:∃k:Nat,ii=(k:Int):=⟨ii.toNat,oc⟩;have hkl:ki<ss.length:=by have:=hi0.2 oc;omega
   have ham:=ymf (u:=u) most ss ms ii hn hm;have hown:ykm ss ii=0:=if_pos (by have:=hi0.2 (oc);simp;omega);have hav:ym3 most ss ms ii=yls ((zah most ss ms).map λp=>(yqj ss p).getD ki 0):=by unfold ym3;rw [hown,hL,if_pos rfl,ynm,hki,kb9,yq4 _ _ _ hkl]
   rw [hav,hown,hL] at ham;have hst2:=ysm (G:=zch u) ((zah most ss ms).map λp=>(yqj ss p).getD ki 0) oy;have sl2:(yls ((zah most ss ms).map λp=>(yqj ss p).getD ki 0)).length<=100000:=by have:=yqr ((zah most ss ms).map λp=>(yqj ss p).getD ki 0);rw [ka6] at this;omega
   have h12:=ys6 (most:=most) (ii:=ii) sl1 (ys5 h15 hs0 ham hst2 sl2) hst1 t1 t2 t3;refine mid9 (λh=>((zah most ss ms).take h).map (yri ss K A)) (λh=>((zah most ss ms).take h).map λp=>(yqj ss p).getD ki 0) (zcg (zwn most ss ms jj)) od od rfl hn hm hq0 hq1 ho0 ho1 hii hjj hHn (λh hlt=>?_) (by rw [kdl];exact h12);obtain⟨W,s1,s2,s3,s4,s5,s6⟩:=hstep h hlt
   exact⟨_,_,W,_,_,s1,s2,s3,s4,s5,hsl1 h,by simp;omega,zjz _ h,ysf _ _ hlt,s6,λh=>absurd h hs0,λ_=>⟨ki,hki,hkl,ysf _ _ hlt⟩⟩
 exact ysq hsum hd1 hpa hw hh hlp hsu hH h9 _ rfl
end Go.Ab.J
namespace Go.Proofs.YtbnajhgbhbgjdaaGreatDoor
open Go Go.Ab Go.Ab.J
theorem salesReached_holds:Rows.SalesReachedCardSaid:=ybe λu most ss ms a1 a2 a3 h0 h1 h2 h3 h4 h5=>ysl u summed_a most ss ms a1 a2 a3 h0 h1 h2 h3 h4 h5
end Go.Proofs.YtbnajhgbhbgjdaaGreatDoor
