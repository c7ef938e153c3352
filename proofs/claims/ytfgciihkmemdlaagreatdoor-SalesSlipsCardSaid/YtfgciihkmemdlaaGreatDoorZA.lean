/- What all laws about sales rest on, beside any goroutines. Conditions: none. -/
import Derived.Test.YtfgciihkmemdlaaGreatDoorZy
import Derived.Test.YtfgciihkmemdlaaGreatDoorZz
import Derived.Sort.AssemblyPlain
namespace Go.Ab.J
open Go Go.Proofs Go.Kp
open Go.Sort (swp insInner insOuter insertionSort ltInt)
section
variable{G:zbf}{u:Nat->ByteArray}
abbrev ia(d:Array Int):List (List AV):=il d.toList
theorem yke{d:Array Int}{i:Nat}(h:i<d.size):(ia d)[i]?=some [vi d[i]!]:=by simp [ia,h]
theorem ykd(d:Array Int):(ia d).length=d.size:=by simp [ia]
theorem ykf(d:Array Int)(i j:Nat):(swp d i j).size=d.size:=by simp [swp]
theorem ynj{d:Array Int}{i j:Nat}(_hij:i≠j):ia (swp d i j)=((ia d).set i (spl [vi d[i]!] 0 [vi d[j]!])).set j (spl [vi d[j]!] 0 [vi d[i]!]):=by simp [ia,swp,spl,il]
def yoc(d:Array Int)(i:Nat):Nat->Array Int
 | 0=>d
 | m+1=>swp (yoc d i m) (i-m) (i-m-1)
theorem yl8(d:Array Int)(i:Nat):∀m,(yoc d i m).size=d.size
 | 0=>rfl
 | m+1=>by rw [yoc,ykf,yl8]
def yma(a:Nat)(d:Array Int):Nat->Array Int
 | 0=>d
 | k+1=>insInner ltInt a (a+1+k) (yma a d k)
theorem yk1(a:Nat):∀j (d:Array Int),(insInner ltInt a j d).size=d.size
 | 0,d=>rfl
 | j+1,d=>by
   unfold insInner;split
   .rw [yk1 a j,ykf]
   .rfl
theorem yl9(a:Nat)(d:Array Int):∀k,(yma a d k).size=d.size
 | 0=>rfl
 | k+1=>by rw [yma,yk1,yl9]
theorem ylq(a b:Nat)(d:Array Int):∀k,k<=b-(a+1)->insertionSort ltInt d a b=insOuter ltInt a b (a+1+k) (yma a d k)
 | 0,_=>rfl
 | k+1,h=>by rw [ylq a b d k oc];rw [insOuter,if_pos oc];rfl
theorem yn3(a b:Nat)(d:Array Int):insertionSort ltInt d a b=yma a d (b-(a+1)):=by rw [ylq a b d _ (kac _),insOuter,if_neg oc]
attribute [local irreducible] AOp AW ADr AFn ze1 AFt AOpJ
set_option maxRecDepth 20000
set_option maxHeartbeats 16000000
theorem yot{P G:Prop}(n:P)(h:Wr P->G:=by(intro n;first|((with_reducible apply kC);first|exact gB ⟨_,z70 _ _,.mk rfl n.p⟩|exact gK n.p|exact gS n.p)|exact⟨_,z70 _ _,n.p⟩|exact sk n.p|exact ap n.p)):G:=h ⟨n⟩
theorem yni(d:Array Int)(a b:Nat)(hb:b<=d.size)(hs:d.size<=100000)(ha:a<=100000):zu1 (cx G) 172 [.own 1000,vi a,vi b] [(1000,.buf 1 3 (ia d))] (.tup []) [(1000,.buf 1 3 (ia (insertionSort ltInt d a b)))] []:=by
 refine zeu [(1000,0)] Tryz.func172 rfl Tryz.ntmps172 rfl rfl rfl λQ hQ=>?_;have e0:vi ((a:Int)+1)=vi ((a+1+0:Nat):Int):=od
 (repeat' (first|refine sy ?_|(refine aZ ?_;intros)|refine yot ?_|fail));refine zam (b-(a+1)) (λk=>[(2*0,.av (.own 1000)),(2*1,.av (vi a)),(2*2,.av (vi b)),(2*6,.av (vi ((a+1+k:Nat):Int))),(2*1000+1,.buf 1 3 (ia (yma a d k)))]) ?_ ?_
 .exact si
 .intro k hk;have hsz:=yl9 a d k;by_cases hlt:a+1+k<b
  .have hd1:decide (((a+1+k:Nat):Int)<(b:Int))=true:=by simp;omega
   (repeat' (first|refine sy ?_|(refine aZ ?_;intros)|refine yot ?_|fail));refine zbe (k+1) (λm=>insInner ltInt a (a+1+k) (yma a d k)=insInner ltInt a (a+1+k-m) (yoc (yma a d k) (a+1+k) m)) (λm=>[(2*0,.av (.own 1000)),(2*1,.av (vi a)),(2*2,.av (vi b)),(2*6,.av (vi ((a+1+k:Nat):Int))),(2*7,.av (vi ((a+1+k-m:Nat):Int))),(2*1000+1,.buf 1 3 (ia (yoc (yma a d k) (a+1+k) m)))]) rfl ?_ ?_
   .exact si
   .intro m hm hP;have hxs:=yl8 (yma a d k) (a+1+k) m;have hX:yoc (yma a d k) (a+1+k) (m+1)=swp (yoc (yma a d k) (a+1+k) m) (a+1+k-m) (a+1+k-m-1):=rfl;generalize yoc (yma a d k) (a+1+k) m=X at hP hxs hX |-;have e2:vi (((a+1+k:Nat):Int)+1)=vi ((a+1+(k+1):Nat):Int):=by simp;omega
    by_cases hgt:a<a+1+k-m
    .obtain⟨j,hj⟩:∃j,a+1+k-m=j+1:=⟨a+k-m,oc⟩;rw [hj] at hP hX hgt |-;rw [kec] at hX;have hjs:j+1<X.size:=oc
     have hq:((j+1:Nat):Int)-1=((j:Nat):Int):=oc
     have v1:=yke hjs;have v0:=yke (show j<X.size by omega);have l1:j+1<(ia X).length:=by rw [ykd];exact hjs
     have l0:j<(ia X).length:=by rw [ykd];omega
     have hst:insInner ltInt a (j+1) X=if j+1 > a&&ltInt X[j+1]! X[j]! then insInner ltInt a j (swp X (j+1) j) else X:=rfl
     have hd2:decide ((a:Int)<((j+1:Nat):Int))=true:=by simp;omega
     by_cases hl:X[j+1]! < X[j]!
     .have hdl:decide (X[j+1]! < X[j]!)=true:=oa hl
      have hsw:=ynj (d:=X) (show j+1≠j by omega);rw [<-hX] at hsw;have v2:((ia X).set (j+1) (spl [vi X[j+1]!] 0 [vi X[j]!]))[j]?=some [vi X[j]!]:=by rw [kdg oc];exact v0
      have l2:j<((ia X).set (j+1) (spl [vi X[j+1]!] 0 [vi X[j]!])).length:=by rw [kcz];exact l0
      have hj3:a+1+k-(m+1)=j:=oc
      (repeat' (first|refine sy ?_|(refine aZ ?_;intros)|refine yot ?_|fail));refine⟨oc,?_,?_⟩
      .rw [hP,hst,hX,hj3,if_pos (by simp [ltInt,hl];omega)]
      .clear hX hP hst;exact si
     .have hdl:decide (X[j+1]! < X[j]!)=false:=oa hl
      have hfin:yma a d (k+1)=X:=by rw [yma,hP,hst,if_neg (by simp [ltInt,hl])]
      (repeat' (first|refine sy ?_|(refine aZ ?_;intros)|refine yot ?_|fail));refine⟨oc,?_⟩;clear hX hP hst;exact si
    .have he:a+1+k-m=a:=oc
     rw [he] at hP hX |-;have hd2:decide ((a:Int)<((a:Nat):Int))=false:=od
     have hfin:yma a d (k+1)=X:=by
      rw [yma,hP];cases a with
      | zero=>rfl
      | succ a=>rw [insInner,if_neg od]
     rw [<-hfin];(repeat' (first|refine sy ?_|(refine aZ ?_;intros)|refine yot ?_|fail));refine⟨oc,?_⟩;exact si
  .have hd1:decide (((a+1+k:Nat):Int)<(b:Int))=false:=by simp;omega
   have hE:k=b-(a+1):=oc
   rw [yn3,<-hE] at hQ;(repeat' (first|refine sy ?_|(refine aZ ?_;intros)|refine yot ?_|fail));exact hQ.g1 (.inl rfl) rfl ⟨rfl,trivial⟩ rfl
end
end Go.Ab.J
namespace Go.Ab.J
open Go Go.Proofs Go.Kp
open Go.Sort (swp ltInt)
section
variable{G:zbf}{u:Nat->ByteArray}
theorem yk2(d:Array Int)(i j:Nat):ia (swp d i j)=((ia d).set i (spl [vi d[i]!] 0 [vi d[j]!])).set j (spl [vi d[j]!] 0 [vi d[i]!]):=by simp [ia,swp,spl,il]
theorem yko{d:Array Int}{i j:Nat}(hj:j<d.size):((ia d).set i (spl [vi d[i]!] 0 [vi d[j]!]))[j]?=some [vi d[j]!]:=by
 by_cases h:i=j
 .subst h;rw [kc5 (by rw [ykd];exact hj)];rfl
 .rw [kdg h];exact yke hj
theorem ykp{d:Array Int}{i j:Nat}{r:List AV}(hj:j<d.size):j<((ia d).set i r).length:=by rw [kcz,ykd];exact hj
theorem ymg(hi first r:Nat)(X:Array Int):Go.Sort.siftDown ltInt hi first r X=if 2*r+1 >= hi then X else
  if (2*r+1+1<hi/\X[first+(2*r+1)]! < X[first+(2*r+1)+1]!) then
   (if X[first+r]! < X[first+(2*r+2)]! then Go.Sort.siftDown ltInt hi first (2*r+2) (swp X (first+r) (first+(2*r+2))) else X)
  else (if X[first+r]! < X[first+(2*r+1)]! then Go.Sort.siftDown ltInt hi first (2*r+1) (swp X (first+r) (first+(2*r+1))) else X):=by
 rw [Go.Sort.siftDown]
 by_cases h1:2*r+1 >= hi
 .simp [h1]
 .by_cases h2:2*r+1+1<hi
  .by_cases h3:X[first+(2*r+1)]! < X[first+(2*r+1)+1]!
   .have h4:2*r+2<hi:=oc
    simp [h1,h2,h3,ltInt];split<;>split<;>first|rfl|omega
   .simp [h1,h2,h3,ltInt];split<;>split<;>first|rfl|omega
  .simp [h1,h2,ltInt];split<;>split<;>first|rfl|omega
theorem ykz(hi first:Nat):∀(n r:Nat) (X:Array Int),hi-r<=n->(Go.Sort.siftDown ltInt hi first r X).size=X.size
 | 0,r,X,h=>by rw [ymg,if_pos oc]
 | n+1,r,X,h=>by
   rw [ymg];split
   .rfl
   .split
    .split
     .rw [ykz hi first n _ _ oc,ykf]
     .rfl
    .split
     .rw [ykz hi first n _ _ oc,ykf]
     .rfl
attribute [local irreducible] AOp AW ADr AFn ze1 AFt AOpJ
set_option maxRecDepth 20000
set_option maxHeartbeats 16000000
theorem yn6{P G:Prop}(n:P)(h:Wr P->G:=by(intro n;first|((with_reducible apply kC);first|exact gB ⟨_,z70 _ _,.mk rfl n.p⟩|exact gK n.p|exact gS n.p)|exact⟨_,z70 _ _,n.p⟩|exact sk n.p|exact ap n.p)):G:=h ⟨n⟩
theorem yln(d:Array Int)(root hi first:Nat)(hb:first+hi<=d.size)(hs:d.size<=100000)(hr:root<=100000):zu1 (cx G) 192 [.own 1000,vi root,vi hi,vi first] [(1000,.buf 1 3 (ia d))] (.tup []) [(1000,.buf 1 3 (ia (Go.Sort.siftDown ltInt hi first root d)))] []:=by
 refine zeu [(1000,0)] Tryz.func192 rfl Tryz.ntmps192 rfl rfl rfl λQ hQ=>?_;(repeat' (first|refine sy ?_|refine aS λP9 h9=>?_|refine aB λP9 _ _ _ _=>?_|refine yn6 ?_|fail))
 refine z2s (ι:={x:Nat×Array Int // Go.Sort.siftDown ltInt hi first root d=Go.Sort.siftDown ltInt hi first x.1 x.2/\x.2.size=d.size/\x.1<=100000}) (λx=>[(2*0,.av (.own 1000)),(2*2,.av (vi hi)),(2*3,.av (vi first)),(2*8,.av (vi x.1.1)),(2*1000+1,.buf 1 3 (ia x.1.2))]) (λx=>hi-x.1.1) ⟨(root,d),rfl,rfl,hr⟩ ?_ ?_
 .exact si
 .rintro⟨⟨r,X⟩,hP,hxs,hrr⟩;simp only at hP hxs hrr |-;rw [ymg hi first r X] at hP;by_cases h1:2*r+1 >= hi
  .have hd1:decide ((hi:Int)<=2*(r:Int)+1)=true:=by simp;omega
   rw [if_pos h1] at hP;rw [hP] at hQ;(repeat' (first|refine sy ?_|refine aS λP9 h9=>?_|refine aB λP9 _ _ _ _=>?_|refine yn6 ?_|fail));rename_i xx _ _ _ _;refine xx 0 _ rfl ?_;(repeat' (first|refine sy ?_|refine yn6 ?_|fail));refine hQ.go _ _ _ zcz (.inl rfl) rfl ⟨rfl,trivial⟩ ?_;intro p hp;cases hp with
   | head=>exact rfl
   | tail _ h=>cases h
  have hd1:decide ((hi:Int)<=2*(r:Int)+1)=false:=by simp;omega
  rw [if_neg h1] at hP;have q1:(first:Int)+(2*(r:Int)+1)=((first+(2*r+1):Nat):Int):=oc
  have q2:(first:Int)+(2*(r:Int)+1)+1=((first+(2*r+1)+1:Nat):Int):=oc
  have q3:(first:Int)+(r:Int)=((first+r:Nat):Int):=oc
  have q4:(first:Int)+(2*(r:Int)+1+1)=((first+(2*r+2):Nat):Int):=oc
  have v1:=yke (show first+(2*r+1)<X.size by omega);have v3:=yke (show first+r<X.size by omega);have l1:first+(2*r+1)<(ia X).length:=by rw [ykd];omega
  have l3:first+r<(ia X).length:=by rw [ykd];omega
  by_cases h2:2*r+1+1<hi/\X[first+(2*r+1)]! < X[first+(2*r+1)+1]!
  .obtain⟨h2,h3⟩:=h2;have hd2:decide (2*(r:Int)+1+1<(hi:Int))=true:=by simp;omega
   have hd3:decide (X[first+(2*r+1)]! < X[first+(2*r+1)+1]!)=true:=oa h3
   rw [if_pos ⟨h2,h3⟩] at hP;have v2:=yke (show first+(2*r+1)+1<X.size by omega);have l2:first+(2*r+1)+1<(ia X).length:=by rw [ykd];omega
   have v4:=yke (show first+(2*r+2)<X.size by omega);have l4:first+(2*r+2)<(ia X).length:=by rw [ykd];omega
   by_cases h4:X[first+r]! < X[first+(2*r+2)]!
   .have hd4:(!decide (X[first+r]! < X[first+(2*r+2)]!))=false:=oa h4
    rw [if_pos h4] at hP;have hsw:=ynj (d:=X) (show first+r≠first+(2*r+2) by omega);have v5:((ia X).set (first+r) (spl [vi X[first+r]!] 0 [vi X[first+(2*r+2)]!]))[first+(2*r+2)]?=some [vi X[first+(2*r+2)]!]:=by rw [kdg oc];exact v4
    have l5:first+(2*r+2)<((ia X).set (first+r) (spl [vi X[first+r]!] 0 [vi X[first+(2*r+2)]!])).length:=by rw [kcz];exact l4
    have hr2:vi (2*(r:Int)+1+1)=vi ((2*r+2:Nat):Int):=by congr 2
    (repeat' (first  |refine sy ?_|(refine aZ ?_;intros)|refine yn6 ?_|(refine s2 ?_ ?_<;>intro h7<;>try omega)));refine⟨⟨(2*r+2,swp X (first+r) (first+(2*r+2))),hP,by rw [ykf];exact hxs,oc⟩,?_,by first|omega|(simp only;omega)⟩;simp only;clear hP v1 v2 v3 v4 v5 hQ;exact si
   .have hd4:(!decide (X[first+r]! < X[first+(2*r+2)]!))=true:=oa h4
    rw [if_neg h4] at hP;rw [hP] at hQ;(repeat' (first  |refine sy ?_|(refine aZ ?_;intros)|refine yn6 ?_|(refine s2 ?_ ?_<;>intro h7<;>try omega)));exact hQ.g1 (.inr rfl) rfl ⟨rfl,trivial⟩ rfl
  .have hnext:X[first+r]! < X[first+(2*r+1)]!->Go.Sort.siftDown ltInt hi first root d=Go.Sort.siftDown ltInt hi first (2*r+1) (swp X (first+r) (first+(2*r+1))):=λh=>by rw [hP,if_neg h2,if_pos h]
   have hstop:¬X[first+r]! < X[first+(2*r+1)]!->Go.Sort.siftDown ltInt hi first root d=X:=λh=>by rw [hP,if_neg h2,if_neg h]
   have hr2:vi (2*(r:Int)+1)=vi ((2*r+1:Nat):Int):=by congr 2
   have hsw:=ynj (d:=X) (show first+r≠first+(2*r+1) by omega);have v5:((ia X).set (first+r) (spl [vi X[first+r]!] 0 [vi X[first+(2*r+1)]!]))[first+(2*r+1)]?=some [vi X[first+(2*r+1)]!]:=by rw [kdg oc];exact v1
   have l5:first+(2*r+1)<((ia X).set (first+r) (spl [vi X[first+r]!] 0 [vi X[first+(2*r+1)]!])).length:=by rw [kcz];exact l1
   clear hP;by_cases h3:2*r+1+1<hi
   .have hd2:decide (2*(r:Int)+1+1<(hi:Int))=true:=by simp;omega
    have h5:¬X[first+(2*r+1)]! < X[first+(2*r+1)+1]!:=λh=>h2 ⟨h3,h⟩;have hd3:decide (X[first+(2*r+1)]! < X[first+(2*r+1)+1]!)=false:=oa h5
    have v2:=yke (show first+(2*r+1)+1<X.size by omega);have l2:first+(2*r+1)+1<(ia X).length:=by rw [ykd];omega
    by_cases h4:X[first+r]! < X[first+(2*r+1)]!
    .have hd4:(!decide (X[first+r]! < X[first+(2*r+1)]!))=false:=oa h4
     (repeat' (first  |refine sy ?_|(refine aZ ?_;intros)|refine yn6 ?_|(refine s2 ?_ ?_<;>intro h7<;>try omega)));refine⟨⟨(2*r+1,swp X (first+r) (first+(2*r+1))),hnext h4,by rw [ykf];exact hxs,oc⟩,?_,by first|omega|(simp only;omega)⟩;simp only;clear v1 v2 v3 v5 hQ hnext hstop;exact si
    .have hd4:(!decide (X[first+r]! < X[first+(2*r+1)]!))=true:=oa h4
     rw [hstop h4] at hQ;(repeat' (first  |refine sy ?_|(refine aZ ?_;intros)|refine yn6 ?_|(refine s2 ?_ ?_<;>intro h7<;>try omega)));exact hQ.g1 (.inr rfl) rfl ⟨rfl,trivial⟩ rfl
   .have hd2:decide (2*(r:Int)+1+1<(hi:Int))=false:=by simp;omega
    by_cases h4:X[first+r]! < X[first+(2*r+1)]!
    .have hd4:(!decide (X[first+r]! < X[first+(2*r+1)]!))=false:=oa h4
     (repeat' (first  |refine sy ?_|(refine aZ ?_;intros)|refine yn6 ?_|(refine s2 ?_ ?_<;>intro h7<;>try omega)));refine⟨⟨(2*r+1,swp X (first+r) (first+(2*r+1))),hnext h4,by rw [ykf];exact hxs,oc⟩,?_,by first|omega|(simp only;omega)⟩;simp only;clear v1 v3 v5 hQ hnext hstop;exact si
    .have hd4:(!decide (X[first+r]! < X[first+(2*r+1)]!))=true:=oa h4
     rw [hstop h4] at hQ;(repeat' (first  |refine sy ?_|(refine aZ ?_;intros)|refine yn6 ?_|(refine s2 ?_ ?_<;>intro h7<;>try omega)));exact hQ.g1 (.inr rfl) rfl ⟨rfl,trivial⟩ rfl
def hbU(hi a K:Nat)(d:Array Int):Nat->Array Int
 | 0=>d
 | j+1=>Go.Sort.siftDown ltInt hi a (K-j-1) (hbU hi a K d j)
theorem ymn(hi a K:Nat)(d:Array Int):∀j,(hbU hi a K d j).size=d.size
 | 0=>rfl
 | j+1=>by rw [hbU,ykz hi a _ _ _ (kac _),ymn]
theorem yoe(hi a K:Nat)(d:Array Int):∀j,j<=K->Go.Sort.heapBuild ltInt hi a K d=Go.Sort.heapBuild ltInt hi a (K-j) (hbU hi a K d j)
 | 0,_=>rfl
 | j+1,h=>by rw [yoe hi a K d j oc,show K-j=(K-(j+1))+1 by omega,Go.Sort.heapBuild];show _=Go.Sort.heapBuild ltInt hi a (K-(j+1)) (Go.Sort.siftDown ltInt hi a (K-j-1) (hbU hi a K d j));rw [show K-j-1=K-(j+1) by omega]
def hpU(a n:Nat)(d:Array Int):Nat->Array Int
 | 0=>d
 | j+1=>Go.Sort.siftDown ltInt (n-j-1) a 0 (swp (hpU a n d j) a (a+(n-j-1)))
theorem ymm(a n:Nat)(d:Array Int):∀j,(hpU a n d j).size=d.size
 | 0=>rfl
 | j+1=>by rw [hpU,ykz _ _ _ _ _ (kac _),ykf,ymm]
theorem yod(a n:Nat)(d:Array Int):∀j,j<=n->Go.Sort.heapPop ltInt a n d=Go.Sort.heapPop ltInt a (n-j) (hpU a n d j)
 | 0,_=>rfl
 | j+1,h=>by rw [yod a n d j oc,show n-j=(n-(j+1))+1 by omega,Go.Sort.heapPop];show _=Go.Sort.heapPop ltInt a (n-(j+1)) (Go.Sort.siftDown ltInt (n-j-1) a 0 (swp (hpU a n d j) a (a+(n-j-1))));rw [show n-j-1=n-(j+1) by omega]
theorem yn4(d:Array Int)(a b:Nat):Go.Sort.heapSort ltInt d a b=hpU a (b-a) (hbU (b-a) a ((b-a-1) / 2+1) d ((b-a-1) / 2+1)) (b-a):=by unfold Go.Sort.heapSort;rw [yoe (b-a) a _ d _ (kac _),kei,yod a (b-a) _ _ (kac _),kei];rfl
theorem esb0{G:Prop}(h:G:=by((repeat' (first|((with_reducible apply kC);first|refine gM (p:=[]) (ys:=[_,_,_,_]) (q:=[]) m1 ?_)|refine sy ?_|(refine aZ ?_;intros)|refine w0 ?_|fail));refine⟨hlt,?_⟩;rw [hX,hj2];exact si)):G:=h
theorem ymz(d:Array Int)(a b:Nat)(hab:a<b)(hb:b<=d.size)(hs:d.size<=100000):zu1 (cx G) 173 [.own 1000,vi a,vi b] [(1000,.buf 1 3 (ia d))] (.tup []) [(1000,.buf 1 3 (ia (Go.Sort.heapSort ltInt d a b)))] []:=by
 refine zeu [(1000,0)] Tryz.func173 rfl Tryz.ntmps173 rfl rfl rfl λQ hQ=>?_;have e1:(b:Int)-(a:Int)=((b-a:Nat):Int):=oc
 generalize hn:b-a=n at e1;have e2:((n:Int)-1) / 2=(((n-1) / 2+1:Nat):Int)-1:=oc
 rw [yn4,hn] at hQ;generalize hK:(n-1) / 2+1=K at e2 hQ;(repeat' (first|refine sy ?_|(refine aZ ?_;intros)|refine w0 ?_|fail));refine zam K (λj=>[(2*0,.av (.own 1000)),(2*6,.av (vi a)),(2*7,.av (vi 0)),(2*8,.av (vi n)),(2*9,.av (vi (((K-j:Nat):Int)-1))),(2*1000+1,.buf 1 3 (ia (hbU n a K d j)))]) ?_ ?_
 .exact si
 .intro j hj;have hsz:=ymn n a K d j;by_cases hlt:j<K
  .obtain⟨i,hi⟩:∃i,K-j=i+1:=⟨K-j-1,oc⟩;have hX:hbU n a K d (j+1)=Go.Sort.siftDown ltInt n a i (hbU n a K d j):=by rw [hbU,hi];rfl
   have hq:((i+1:Nat):Int)-1=(i:Int):=oc
   have hj2:K-(j+1)=i:=oc
   rw [hi,hq];have hd:decide ((0:Int)<=(i:Int))=true:=od
   have m1:=yln (G:=G) (hbU n a K d j) i n a oc oc oc;exact esb0
  .have hjK:j=K:=oc
   subst hjK;rw [kei];have hd:decide ((0:Int)<=((0:Nat):Int)-1)=false:=oe
   generalize hbU n a j d j=D at hQ hsz;(repeat' (first|refine sy ?_|(refine aZ ?_;intros)|refine w0 ?_|fail));refine zam n (λk=>[(2*0,.av (.own 1000)),(2*6,.av (vi a)),(2*7,.av (vi 0)),(2*10,.av (vi (((n-k:Nat):Int)-1))),(2*1000+1,.buf 1 3 (ia (hpU a n D k)))]) ?_ ?_
   .exact si
   .intro k hk;have hsz2:=ymm a n D k;by_cases hlt:k<n
    .obtain⟨i,hi⟩:∃i,n-k=i+1:=⟨n-k-1,oc⟩;have hX:hpU a n D (k+1)=Go.Sort.siftDown ltInt i a 0 (swp (hpU a n D k) a (a+i)):=by rw [hpU,hi];rfl
     generalize hpU a n D k=X at hsz2 hX |-;have hq:((i+1:Nat):Int)-1=(i:Int):=oc
     have hj2:n-(k+1)=i:=oc
     rw [hi,hq];have hd:decide ((0:Int)<=(i:Int))=true:=od
     have q1:(a:Int)+(i:Int)=((a+i:Nat):Int):=oc
     have v1:=yke (show a+i<X.size by omega);have v2:=yke (show a<X.size by omega);have l1:a+i<(ia X).length:=by rw [ykd];omega
     have l2:a<(ia X).length:=by rw [ykd];omega
     have v3:=yko (d:=X) (i:=a) (show a+i<X.size by omega);have l3:=ykp (d:=X) (i:=a) (r:=spl [vi X[a]!] 0 [vi X[a+i]!]) (show a+i<X.size by omega);have hsw:=yk2 X a (a+i);have m1:=yln (G:=G) (swp X a (a+i)) 0 i a (by rw [ykf];omega) (by rw [ykf];omega) oc;rw [hsw] at m1;exact esb0
    .have hjK:k=n:=oc
     subst hjK;rw [kei];have hd:decide ((0:Int)<=((0:Nat):Int)-1)=false:=oe
     (repeat' (first|refine sy ?_|(refine aZ ?_;intros)|refine w0 ?_|fail));exact hQ.g1 (.inl rfl) rfl ⟨rfl,trivial⟩ rfl
end
end Go.Ab.J
namespace Go.Ab.J
open Go
theorem rNil{E:Env}{w:World}:yf1 E w [] []:=yf1.nil _ _
end Go.Ab.J
namespace Go.Ab.J
open Go Go.Proofs Go.Kp
section
variable{G:zbf}
theorem yh1{t:TypeId}(hu:Tryz.prog.underlying t=some (.int .i64))(xs:Array Value)(off:Nat)(v:Value)(h:xs[off]?=some v)(w:World):(part t xs off).run Tryz.prog w=.ok v w:=by simp [part,isAgg,run_underlying hu,h]
theorem yio{t:TypeId}(hu:Tryz.prog.underlying t=some .bool)(xs:Array Value)(off:Nat)(v:Value)(h:xs[off]?=some v)(w:World):(part t xs off).run Tryz.prog w=.ok v w:=by simp [part,isAgg,run_underlying hu,h]
theorem yi0:(Tryz.prog.info? 33).map (·.size)=some 2:=by kernel_rfl
theorem yib(xs ys:Array Value)(off:Nat)(h:xs.extract off (off+2)=ys)(w:World):(part 33 xs off).run Tryz.prog w=.ok (.agg ys) w:=by
 obtain⟨i,hi,hs⟩:∃i,Tryz.prog.info? 33=some i/\i.size=2:=by
  have:=yi0;cases h:Tryz.prog.info? 33 with
  | none=>rw [h] at this;cases this
  | some i=>rw [h] at this;exact⟨i,rfl,oa this⟩
 simp [part,isAgg,run_underlying z32,sizeOf,typeInfo,hi,hs,go_sem,h]
theorem yic(d:Nat)(a b:Int)(w:World):(Op.equalIn (d+2) 33 (.agg #[.int .i64 a,.int .i64 b]) (.agg #[.int .i64 a,.int .i64 b])).run Tryz.prog w=.ok true w:=by
 rw [run_equalIn_struct w (d+1) _ _ _ z32 z4d];have hf:=z1w;generalize (Tryz.prog.fieldsOf 33).toList=fs at hf;obtain⟨f,g,rfl⟩:∃f g,fs=[f,g]:=z00 (by have:=congrArg List.length hf;simpa using this);simp only [kbq,kej,kc8,Prod.mk.injEq,and_true] at hf;obtain⟨⟨h1,h2,h3⟩,h4,h5,h6⟩:=hf;have hn : f.name ≠ "_" := by rw [h1]; decide
 have hm : g.name ≠ "_" := by rw [h4]; decide
 have p0:∀w,(part 3 #[Value.int .i64 a,Value.int .i64 b] 0).run Tryz.prog w=.ok (.int .i64 a) w:=λw=>zdu _ _ _ rfl w;have p1:∀w,(part 3 #[Value.int .i64 a,Value.int .i64 b] 1).run Tryz.prog w=.ok (.int .i64 b) w:=λw=>zdu _ _ _ rfl w;simp [Op.eqFields,if_pos hn,if_pos hm,h2,h3,h5,h6,Sem.run_bind,p0,p1,Result.andThen_ok,run_equalIn_int w _ _ _ _ _ _ under_int]
theorem yip : (Tryz.prog.fieldsOf 36).toList.map (λf => (f.name, f.type, f.offset)) = [("Kind", 31, 0), ("Dept", 3, 1), ("Clerk", 3, 2), ("For", 3, 3), ("Amount", 33, 4), ("Signed", 34, 6)] := by kernel_rfl
theorem yit : (Tryz.prog.fieldsOf 68).toList.map (λf => (f.name, f.type, f.offset)) = [("Kind", 41, 0), ("A", 3, 1), ("Many", 33, 2), ("Firm", 4, 4)] := by kernel_rfl
theorem yin:Tryz.prog.stoodInHeld 36=false:=by kernel_rfl
theorem yis:Tryz.prog.stoodInHeld 68=false:=by kernel_rfl
theorem yh4:Tryz.prog.eqGuardType Tryz.prog.depth 36=false:=by kernel_rfl
theorem yh7:Tryz.prog.eqGuardType Tryz.prog.depth 68=false:=by kernel_rfl
theorem yi1{α:Type}:∀{l:List α},l.length=4->∃a b c d,l=[a,b,c,d]
 | [a,b,c,d],_=>⟨a,b,c,d,rfl⟩
theorem yi5{α:Type}:∀{l:List α},l.length=6->∃a b c d e f,l=[a,b,c,d,e,f]
 | [a,b,c,d,e,f],_=>⟨a,b,c,d,e,f,rfl⟩
theorem yh3(s:Slip)(w:World):(Op.equal 36 (.agg (zq9 s).toArray) (.agg (zq9 s).toArray)).run Tryz.prog w=.ok true w:=by
 show(Op.equalIn (9999+1) _ _ _).run _ _=_;rw [run_equalIn_struct w 9999 _ _ _ ycw yin];have hf:=yip;generalize (Tryz.prog.fieldsOf 36).toList=fs at hf;obtain⟨f0,f1,f2,f3,f4,f5,rfl⟩:∃a b c d e f,fs=[a,b,c,d,e,f]:=yi5 (by have:=congrArg List.length hf;simpa using this);simp only [kbq,kej,kc8,Prod.mk.injEq,and_true] at hf;obtain⟨⟨a0,b0,c0⟩,⟨a1,b1,c1⟩,⟨a2,b2,c2⟩,⟨a3,b3,c3⟩,⟨a4,b4,c4⟩,a5,b5,c5⟩:=hf
 have n0 : f0.name ≠ "_" := by rw [a0]; decide
 have n1 : f1.name ≠ "_" := by rw [a1]; decide
 have n2 : f2.name ≠ "_" := by rw [a2]; decide
 have n3 : f3.name ≠ "_" := by rw [a3]; decide
 have n4 : f4.name ≠ "_" := by rw [a4]; decide
 have n5 : f5.name ≠ "_" := by rw [a5]; decide
 have p0:∀w,(part 31 (zq9 s).toArray 0).run Tryz.prog w=.ok (.int .i64 s.kind) w:=λw=>yh1 ycy _ _ _ rfl w;have p1:∀w,(part 3 (zq9 s).toArray 1).run Tryz.prog w=.ok (.int .i64 s.dept) w:=λw=>yh1 zjd _ _ _ rfl w;have p2:∀w,(part 3 (zq9 s).toArray 2).run Tryz.prog w=.ok (.int .i64 s.clerk) w:=λw=>yh1 zjd _ _ _ rfl w
 have p3:∀w,(part 3 (zq9 s).toArray 3).run Tryz.prog w=.ok (.int .i64 s.for_) w:=λw=>yh1 zjd _ _ _ rfl w;have p4:∀w,(part 33 (zq9 s).toArray 4).run Tryz.prog w=.ok (.agg #[.int .i64 s.lo,.int .i64 s.hi]) w:=λw=>yib _ _ _ rfl w;have p5:∀w,(part 34 (zq9 s).toArray 6).run Tryz.prog w=.ok (.int .i64 s.signed) w:=λw=>yh1 yct _ _ _ rfl w;have e4:=λw=>yic 9997 s.lo s.hi w
 simp only [Nat.reduceAdd] at e4;simp [Op.eqFields,if_pos n0,if_pos n1,if_pos n2,if_pos n3,if_pos n4,if_pos n5,b0,c0,b1,c1,b2,c2,b3,c3,b4,c4,b5,c5,Sem.run_bind,p0,p1,p2,p3,p4,p5,e4,Result.andThen_ok,run_equalIn_int w _ _ _ _ _ _ zjd,run_equalIn_int w _ _ _ _ _ _ ycy,run_equalIn_int w _ _ _ _ _ _ yct]
theorem yh6(m:SumR)(w:World):(Op.equal 68 (.agg (z7m m).toArray) (.agg (z7m m).toArray)).run Tryz.prog w=.ok true w:=by
 show(Op.equalIn (9999+1) _ _ _).run _ _=_;rw [run_equalIn_struct w 9999 _ _ _ u_sum yis];have hf:=yit;generalize (Tryz.prog.fieldsOf 68).toList=fs at hf;obtain⟨f0,f1,f2,f3,rfl⟩:∃a b c d,fs=[a,b,c,d]:=yi1 (by have:=congrArg List.length hf;simpa using this);simp only [kbq,kej,kc8,Prod.mk.injEq,and_true] at hf;obtain⟨⟨a0,b0,c0⟩,⟨a1,b1,c1⟩,⟨a2,b2,c2⟩,a3,b3,c3⟩:=hf
 have n0 : f0.name ≠ "_" := by rw [a0]; decide
 have n1 : f1.name ≠ "_" := by rw [a1]; decide
 have n2 : f2.name ≠ "_" := by rw [a2]; decide
 have n3 : f3.name ≠ "_" := by rw [a3]; decide
 have p0:∀w,(part 41 (z7m m).toArray 0).run Tryz.prog w=.ok (.int .i64 m.kind) w:=λw=>yh1 u_sk _ _ _ rfl w;have p1:∀w,(part 3 (z7m m).toArray 1).run Tryz.prog w=.ok (.int .i64 m.a) w:=λw=>yh1 zjd _ _ _ rfl w;have p2:∀w,(part 33 (z7m m).toArray 2).run Tryz.prog w=.ok (.agg #[.int .i64 m.lo,.int .i64 m.hi]) w:=λw=>yib _ _ _ rfl w
 have p3:∀w,(part 4 (z7m m).toArray 4).run Tryz.prog w=.ok (.bool m.firm) w:=λw=>yio z7g _ _ _ rfl w;have e4:=λw=>yic 9997 m.lo m.hi w;simp only [Nat.reduceAdd] at e4
 simp [Op.eqFields,if_pos n0,if_pos n1,if_pos n2,if_pos n3,b0,c0,b1,c1,b2,c2,b3,c3,Sem.run_bind,p0,p1,p2,p3,e4,Result.andThen_ok,run_equalIn_int w _ _ _ _ _ _ zjd,run_equalIn_int w _ _ _ _ _ _ u_sk,run_equalIn_bool' w _ _ _ _ z7g]
theorem yia{E:Env}{w:World}(vs:List Value){v:Value}(h:Rep E w (.agg (vs.map .val)) v):v=.agg vs.toArray:=by
 cases h with
 | agg xs us hl h =>
   congr 1;have e:us=vs:=by
    refine kc0 λi=>?_;rcases kae i vs.length with hi|hi
    .have h1:(vs.map AV.val)[i]?=some (.val vs[i]):=by simp [hi]
     have hu:i<us.length:=by rw [<-hl];simpa using hi
     have:=(h i _ us[i] h1 (kaa hu)).val_eq;rw [kaa hu,kaa hi,this]
    .rw [kay hi,kay (by rw [<-hl];simpa using hi)]
   rw [e]
theorem yh2(s:Slip):∀v∈zq9 s,za3 v:=λv hv=>by simp only [zq9,kat,kb2,or_false] at hv;rcases hv with rfl|rfl|rfl|rfl|rfl|rfl|rfl<;>constructor
theorem yh5(m:SumR):∀v∈z7m m,za3 v:=λv hv=>by simp only [z7m,kat,kb2,or_false] at hv;rcases hv with rfl|rfl|rfl|rfl|rfl<;>constructor
section
variable{s:AS}{N:Nat}{x y:Operand}{T t' ty:TypeId}{pos:String}{af:Array Edge}{g:Option (Nat×Bool)}{vs:List Value}
theorem yh9{d:Nat}(heq:∀w,(Op.equal T (.agg vs.toArray) (.agg vs.toArray)).run Tryz.prog w=.ok true w)(hgd:Tryz.prog.eqGuardType Tryz.prog.depth T=false)(hd:d<N)(hx:ev s x=some (.agg (vs.map .val)))(hy:ev s y=some (.agg (vs.map .val))) :
  AOp (cx G) N ⟨some d,.binOp .neq T x y t',ty,pos,af,g⟩ (rds x++rds y) s [(2*d,.av (vb false))] :=
 zau hd λw0 E s' a w hR hr=>by have e1:=yia vs (hr.ev (zat hR (λ_ h=>by simp [h]) hx));have e2:=yia vs (hr.ev (zat hR (λ_ h=>by simp [h]) hy));refine⟨.bool false,?_,.val _,by simp [AV.ids]⟩;have hP:(cx G).P=Tryz.prog:=rfl;simp [execOp,e1,e2,eqGuard,binOp,heq,hP,hgd]
theorem yh8{d:Option Nat}{R:List Nat}(hpl:∀v∈vs,za3 v)(hx:ev s x=some (.agg (vs.map .val)))(hy:ev s y=some (.agg (vs.map .val)))(hs:zly (rds x++rds y) R=true) :
  AFt (cx G) ⟨d,.binOp .neq T x y t',ty,pos,af,g⟩ R s:=λN w0 E s' a w hR hr=>by
 have hR:=agr hR hs
 have e1:=yia vs (hr.ev ((zas λr h=>hR r oo).trans hx))
 have e2:=yia vs (hr.ev ((zas λr h=>hR r oo).trans hy))
 have h0:za3 (.agg vs.toArray):=.agg _ λv hv=>hpl v (oa hv)
 have h1:za3 (a.eval x):=by rw [e1];exact h0
 have h2:za3 (a.eval y):=by rw [e2];exact h0
 refine zjc ?_
 rw [ft_bind];exact zoo _ _ _ _ _ _ h1 h2 (zwe _ _ _ _ h1 h2 λ_=>trivial)
end
end
end Go.Ab.J
