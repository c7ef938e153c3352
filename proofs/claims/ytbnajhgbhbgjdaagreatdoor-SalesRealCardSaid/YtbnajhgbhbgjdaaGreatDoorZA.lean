/- What all laws about sales rest on, beside any goroutines. Conditions: none. -/
import Derived.Test.YtbnajhgbhbgjdaaGreatDoorZy
import Derived.Sort.AssemblyPlain
namespace Go.Ab.J
open Go Go.Proofs Go.Kp
open Go.Sort (swp insInner insOuter insertionSort ltInt)
section
variable{G:zbf}{u:Nat->ByteArray}
abbrev ia(d:Array Int):List (List AV):=il d.toList
theorem yke{d:Array Int}{i:Nat}(h:i<d.size):(ia d)[i]?=some [vi d[i]!]:=by simp [ia,h]
theorem ykd(d:Array Int):(ia d).length=d.size:=by simp [ia]
theorem ykf(d:Array Int)(i j:Nat):(swp d i j).size=d.size:=by simp [swp]
theorem ynj{d:Array Int}{i j:Nat}(_hij:i≠j):ia (swp d i j)=((ia d).set i (spl [vi d[i]!] 0 [vi d[j]!])).set j (spl [vi d[j]!] 0 [vi d[i]!]):=by simp [ia,swp,spl,il]
def yoc(d:Array Int)(i:Nat):Nat->Array Int
 | 0=>d
 | m+1=>swp (yoc d i m) (i-m) (i-m-1)
theorem yl8(d:Array Int)(i:Nat):∀m,(yoc d i m).size=d.size
 | 0=>rfl
 | m+1=>by rw [yoc,ykf,yl8]
def yma(a:Nat)(d:Array Int):Nat->Array Int
 | 0=>d
 | k+1=>insInner ltInt a (a+1+k) (yma a d k)
theorem yk1(a:Nat):∀j (d:Array Int),(insInner ltInt a j d).size=d.size
 | 0,d=>rfl
 | j+1,d=>by
   unfold insInner;split
   .rw [yk1 a j,ykf]
   .rfl
theorem yl9(a:Nat)(d:Array Int):∀k,(yma a d k).size=d.size
 | 0=>rfl
 | k+1=>by rw [yma,yk1,yl9]
theorem ylq(a b:Nat)(d:Array Int):∀k,k<=b-(a+1)->insertionSort ltInt d a b=insOuter ltInt a b (a+1+k) (yma a d k)
 | 0,_=>rfl
 | k+1,h=>by rw [ylq a b d k oc];rw [insOuter,if_pos oc];rfl
theorem yn3(a b:Nat)(d:Array Int):insertionSort ltInt d a b=yma a d (b-(a+1)):=by rw [ylq a b d _ (kac _),insOuter,if_neg oc]
attribute [local irreducible] AOp AW ADr AFn ze1 AFt AOpJ
set_option maxRecDepth 20000
set_option maxHeartbeats 16000000
theorem yot{P G:Prop}(n:P)(h:Wr P->G:=by(intro n;first|((with_reducible apply kC);first|exact gB ⟨_,z70 _ _,.mk rfl n.p⟩|exact gK n.p|exact gS n.p)|exact⟨_,z70 _ _,n.p⟩|exact sk n.p|exact ap n.p)):G:=h ⟨n⟩
theorem yni(d:Array Int)(a b:Nat)(hb:b<=d.size)(hs:d.size<=100000)(ha:a<=100000):zu1 (cx G) 140 [.own 1000,vi a,vi b] [(1000,.buf 1 3 (ia d))] (.tup []) [(1000,.buf 1 3 (ia (insertionSort ltInt d a b)))] []:=by
 refine zeu [(1000,0)] Tryz.func140 rfl Tryz.ntmps140 rfl rfl rfl λQ hQ=>?_;have e0:vi ((a:Int)+1)=vi ((a+1+0:Nat):Int):=od
 (repeat' (first|refine sy ?_|(refine aZ ?_;intros)|refine yot ?_|fail));refine zam (b-(a+1)) (λk=>[(2*0,.av (.own 1000)),(2*1,.av (vi a)),(2*2,.av (vi b)),(2*6,.av (vi ((a+1+k:Nat):Int))),(2*1000+1,.buf 1 3 (ia (yma a d k)))]) ?_ ?_
 .exact si
 .intro k hk;have hsz:=yl9 a d k;by_cases hlt:a+1+k<b
  .have hd1:decide (((a+1+k:Nat):Int)<(b:Int))=true:=by simp;omega
   (repeat' (first|refine sy ?_|(refine aZ ?_;intros)|refine yot ?_|fail));refine zbe (k+1) (λm=>insInner ltInt a (a+1+k) (yma a d k)=insInner ltInt a (a+1+k-m) (yoc (yma a d k) (a+1+k) m)) (λm=>[(2*0,.av (.own 1000)),(2*1,.av (vi a)),(2*2,.av (vi b)),(2*6,.av (vi ((a+1+k:Nat):Int))),(2*7,.av (vi ((a+1+k-m:Nat):Int))),(2*1000+1,.buf 1 3 (ia (yoc (yma a d k) (a+1+k) m)))]) rfl ?_ ?_
   .exact si
   .intro m hm hP;have hxs:=yl8 (yma a d k) (a+1+k) m;have hX:yoc (yma a d k) (a+1+k) (m+1)=swp (yoc (yma a d k) (a+1+k) m) (a+1+k-m) (a+1+k-m-1):=rfl;generalize yoc (yma a d k) (a+1+k) m=X at hP hxs hX |-;have e2:vi (((a+1+k:Nat):Int)+1)=vi ((a+1+(k+1):Nat):Int):=by simp;omega
    by_cases hgt:a<a+1+k-m
    .obtain⟨j,hj⟩:∃j,a+1+k-m=j+1:=⟨a+k-m,oc⟩;rw [hj] at hP hX hgt |-;rw [kec] at hX;have hjs:j+1<X.size:=oc
     have hq:((j+1:Nat):Int)-1=((j:Nat):Int):=oc
     have v1:=yke hjs;have v0:=yke (show j<X.size by omega);have l1:j+1<(ia X).length:=by rw [ykd];exact hjs
     have l0:j<(ia X).length:=by rw [ykd];omega
     have hst:insInner ltInt a (j+1) X=if j+1 > a&&ltInt X[j+1]! X[j]! then insInner ltInt a j (swp X (j+1) j) else X:=rfl
     have hd2:decide ((a:Int)<((j+1:Nat):Int))=true:=by simp;omega
     by_cases hl:X[j+1]! < X[j]!
     .have hdl:decide (X[j+1]! < X[j]!)=true:=oa hl
      have hsw:=ynj (d:=X) (show j+1≠j by omega);rw [<-hX] at hsw;have v2:((ia X).set (j+1) (spl [vi X[j+1]!] 0 [vi X[j]!]))[j]?=some [vi X[j]!]:=by rw [kdg oc];exact v0
      have l2:j<((ia X).set (j+1) (spl [vi X[j+1]!] 0 [vi X[j]!])).length:=by rw [kcz];exact l0
      have hj3:a+1+k-(m+1)=j:=oc
      (repeat' (first|refine sy ?_|(refine aZ ?_;intros)|refine yot ?_|fail));refine⟨oc,?_,?_⟩
      .rw [hP,hst,hX,hj3,if_pos (by simp [ltInt,hl];omega)]
      .clear hX hP hst;exact si
     .have hdl:decide (X[j+1]! < X[j]!)=false:=oa hl
      have hfin:yma a d (k+1)=X:=by rw [yma,hP,hst,if_neg (by simp [ltInt,hl])]
      (repeat' (first|refine sy ?_|(refine aZ ?_;intros)|refine yot ?_|fail));refine⟨oc,?_⟩;clear hX hP hst;exact si
    .have he:a+1+k-m=a:=oc
     rw [he] at hP hX |-;have hd2:decide ((a:Int)<((a:Nat):Int))=false:=od
     have hfin:yma a d (k+1)=X:=by
      rw [yma,hP];cases a with
      | zero=>rfl
      | succ a=>rw [insInner,if_neg od]
     rw [<-hfin];(repeat' (first|refine sy ?_|(refine aZ ?_;intros)|refine yot ?_|fail));refine⟨oc,?_⟩;exact si
  .have hd1:decide (((a+1+k:Nat):Int)<(b:Int))=false:=by simp;omega
   have hE:k=b-(a+1):=oc
   rw [yn3,<-hE] at hQ;(repeat' (first|refine sy ?_|(refine aZ ?_;intros)|refine yot ?_|fail));exact hQ.g1 (.inl rfl) rfl ⟨rfl,trivial⟩ rfl
end
end Go.Ab.J
namespace Go.Ab.J
open Go Go.Proofs Go.Kp
open Go.Sort (swp ltInt)
section
variable{G:zbf}{u:Nat->ByteArray}
theorem yk2(d:Array Int)(i j:Nat):ia (swp d i j)=((ia d).set i (spl [vi d[i]!] 0 [vi d[j]!])).set j (spl [vi d[j]!] 0 [vi d[i]!]):=by simp [ia,swp,spl,il]
theorem yko{d:Array Int}{i j:Nat}(hj:j<d.size):((ia d).set i (spl [vi d[i]!] 0 [vi d[j]!]))[j]?=some [vi d[j]!]:=by
 by_cases h:i=j
 .subst h;rw [kc5 (by rw [ykd];exact hj)];rfl
 .rw [kdg h];exact yke hj
theorem ykp{d:Array Int}{i j:Nat}{r:List AV}(hj:j<d.size):j<((ia d).set i r).length:=by rw [kcz,ykd];exact hj
theorem ymg(hi first r:Nat)(X:Array Int):Go.Sort.siftDown ltInt hi first r X=if 2*r+1 >= hi then X else
  if (2*r+1+1<hi/\X[first+(2*r+1)]! < X[first+(2*r+1)+1]!) then
   (if X[first+r]! < X[first+(2*r+2)]! then Go.Sort.siftDown ltInt hi first (2*r+2) (swp X (first+r) (first+(2*r+2))) else X)
  else (if X[first+r]! < X[first+(2*r+1)]! then Go.Sort.siftDown ltInt hi first (2*r+1) (swp X (first+r) (first+(2*r+1))) else X):=by
 rw [Go.Sort.siftDown]
 by_cases h1:2*r+1 >= hi
 .simp [h1]
 .by_cases h2:2*r+1+1<hi
  .by_cases h3:X[first+(2*r+1)]! < X[first+(2*r+1)+1]!
   .have h4:2*r+2<hi:=oc
    simp [h1,h2,h3,ltInt];split<;>split<;>first|rfl|omega
   .simp [h1,h2,h3,ltInt];split<;>split<;>first|rfl|omega
  .simp [h1,h2,ltInt];split<;>split<;>first|rfl|omega
theorem ykz(hi first:Nat):∀(n r:Nat) (X:Array Int),hi-r<=n->(Go.Sort.siftDown ltInt hi first r X).size=X.size
 | 0,r,X,h=>by rw [ymg,if_pos oc]
 | n+1,r,X,h=>by
   rw [ymg];split
   .rfl
   .split
    .split
     .rw [ykz hi first n _ _ oc,ykf]
     .rfl
    .split
     .rw [ykz hi first n _ _ oc,ykf]
     .rfl
attribute [local irreducible] AOp AW ADr AFn ze1 AFt AOpJ
set_option maxRecDepth 20000
set_option maxHeartbeats 16000000
theorem yn6{P G:Prop}(n:P)(h:Wr P->G:=by(intro n;first|((with_reducible apply kC);first|exact gB ⟨_,z70 _ _,.mk rfl n.p⟩|exact gK n.p|exact gS n.p)|exact⟨_,z70 _ _,n.p⟩|exact sk n.p|exact ap n.p)):G:=h ⟨n⟩
theorem yln(d:Array Int)(root hi first:Nat)(hb:first+hi<=d.size)(hs:d.size<=100000)(hr:root<=100000):zu1 (cx G) 161 [.own 1000,vi root,vi hi,vi first] [(1000,.buf 1 3 (ia d))] (.tup []) [(1000,.buf 1 3 (ia (Go.Sort.siftDown ltInt hi first root d)))] []:=by
 refine zeu [(1000,0)] Tryz.func161 rfl Tryz.ntmps161 rfl rfl rfl λQ hQ=>?_;(repeat' (first|refine sy ?_|refine aS λP9 h9=>?_|refine aB λP9 _ _ _ _=>?_|refine yn6 ?_|fail))
 refine z2s (ι:={x:Nat×Array Int // Go.Sort.siftDown ltInt hi first root d=Go.Sort.siftDown ltInt hi first x.1 x.2/\x.2.size=d.size/\x.1<=100000}) (λx=>[(2*0,.av (.own 1000)),(2*2,.av (vi hi)),(2*3,.av (vi first)),(2*8,.av (vi x.1.1)),(2*1000+1,.buf 1 3 (ia x.1.2))]) (λx=>hi-x.1.1) ⟨(root,d),rfl,rfl,hr⟩ ?_ ?_
 .exact si
 .rintro⟨⟨r,X⟩,hP,hxs,hrr⟩;simp only at hP hxs hrr |-;rw [ymg hi first r X] at hP;by_cases h1:2*r+1 >= hi
  .have hd1:decide ((hi:Int)<=2*(r:Int)+1)=true:=by simp;omega
   rw [if_pos h1] at hP;rw [hP] at hQ;(repeat' (first|refine sy ?_|refine aS λP9 h9=>?_|refine aB λP9 _ _ _ _=>?_|refine yn6 ?_|fail));rename_i xx _ _ _ _;refine xx 0 _ rfl ?_;(repeat' (first|refine sy ?_|refine yn6 ?_|fail));refine hQ.go _ _ _ zcz (.inl rfl) rfl ⟨rfl,trivial⟩ ?_;intro p hp;cases hp with
   | head=>exact rfl
   | tail _ h=>cases h
  have hd1:decide ((hi:Int)<=2*(r:Int)+1)=false:=by simp;omega
  rw [if_neg h1] at hP;have q1:(first:Int)+(2*(r:Int)+1)=((first+(2*r+1):Nat):Int):=oc
  have q2:(first:Int)+(2*(r:Int)+1)+1=((first+(2*r+1)+1:Nat):Int):=oc
  have q3:(first:Int)+(r:Int)=((first+r:Nat):Int):=oc
  have q4:(first:Int)+(2*(r:Int)+1+1)=((first+(2*r+2):Nat):Int):=oc
  have v1:=yke (show first+(2*r+1)<X.size by omega);have v3:=yke (show first+r<X.size by omega);have l1:first+(2*r+1)<(ia X).length:=by rw [ykd];omega
  have l3:first+r<(ia X).length:=by rw [ykd];omega
  by_cases h2:2*r+1+1<hi/\X[first+(2*r+1)]! < X[first+(2*r+1)+1]!
  .obtain⟨h2,h3⟩:=h2;have hd2:decide (2*(r:Int)+1+1<(hi:Int))=true:=by simp;omega
   have hd3:decide (X[first+(2*r+1)]! < X[first+(2*r+1)+1]!)=true:=oa h3
   rw [if_pos ⟨h2,h3⟩] at hP;have v2:=yke (show first+(2*r+1)+1<X.size by omega);have l2:first+(2*r+1)+1<(ia X).length:=by rw [ykd];omega
   have v4:=yke (show first+(2*r+2)<X.size by omega);have l4:first+(2*r+2)<(ia X).length:=by rw [ykd];omega
   by_cases h4:X[first+r]! < X[first+(2*r+2)]!
   .have hd4:(!decide (X[first+r]! < X[first+(2*r+2)]!))=false:=oa h4
    rw [if_pos h4] at hP;have hsw:=ynj (d:=X) (show first+r≠first+(2*r+2) by omega);have v5:((ia X).set (first+r) (spl [vi X[first+r]!] 0 [vi X[first+(2*r+2)]!]))[first+(2*r+2)]?=some [vi X[first+(2*r+2)]!]:=by rw [kdg oc];exact v4
    have l5:first+(2*r+2)<((ia X).set (first+r) (spl [vi X[first+r]!] 0 [vi X[first+(2*r+2)]!])).length:=by rw [kcz];exact l4
    have hr2:vi (2*(r:Int)+1+1)=vi ((2*r+2:Nat):Int):=by congr 2
    (repeat' (first  |refine sy ?_|(refine aZ ?_;intros)|refine yn6 ?_|(refine s2 ?_ ?_<;>intro h7<;>try omega)));refine⟨⟨(2*r+2,swp X (first+r) (first+(2*r+2))),hP,by rw [ykf];exact hxs,oc⟩,?_,by first|omega|(simp only;omega)⟩;simp only;clear hP v1 v2 v3 v4 v5 hQ;exact si
   .have hd4:(!decide (X[first+r]! < X[first+(2*r+2)]!))=true:=oa h4
    rw [if_neg h4] at hP;rw [hP] at hQ;(repeat' (first  |refine sy ?_|(refine aZ ?_;intros)|refine yn6 ?_|(refine s2 ?_ ?_<;>intro h7<;>try omega)));exact hQ.g1 (.inr rfl) rfl ⟨rfl,trivial⟩ rfl
  .have hnext:X[first+r]! < X[first+(2*r+1)]!->Go.Sort.siftDown ltInt hi first root d=Go.Sort.siftDown ltInt hi first (2*r+1) (swp X (first+r) (first+(2*r+1))):=λh=>by rw [hP,if_neg h2,if_pos h]
   have hstop:¬X[first+r]! < X[first+(2*r+1)]!->Go.Sort.siftDown ltInt hi first root d=X:=λh=>by rw [hP,if_neg h2,if_neg h]
   have hr2:vi (2*(r:Int)+1)=vi ((2*r+1:Nat):Int):=by congr 2
   have hsw:=ynj (d:=X) (show first+r≠first+(2*r+1) by omega);have v5:((ia X).set (first+r) (spl [vi X[first+r]!] 0 [vi X[first+(2*r+1)]!]))[first+(2*r+1)]?=some [vi X[first+(2*r+1)]!]:=by rw [kdg oc];exact v1
   have l5:first+(2*r+1)<((ia X).set (first+r) (spl [vi X[first+r]!] 0 [vi X[first+(2*r+1)]!])).length:=by rw [kcz];exact l1
   clear hP;by_cases h3:2*r+1+1<hi
   .have hd2:decide (2*(r:Int)+1+1<(hi:Int))=true:=by simp;omega
    have h5:¬X[first+(2*r+1)]! < X[first+(2*r+1)+1]!:=λh=>h2 ⟨h3,h⟩;have hd3:decide (X[first+(2*r+1)]! < X[first+(2*r+1)+1]!)=false:=oa h5
    have v2:=yke (show first+(2*r+1)+1<X.size by omega);have l2:first+(2*r+1)+1<(ia X).length:=by rw [ykd];omega
    by_cases h4:X[first+r]! < X[first+(2*r+1)]!
    .have hd4:(!decide (X[first+r]! < X[first+(2*r+1)]!))=false:=oa h4
     (repeat' (first  |refine sy ?_|(refine aZ ?_;intros)|refine yn6 ?_|(refine s2 ?_ ?_<;>intro h7<;>try omega)));refine⟨⟨(2*r+1,swp X (first+r) (first+(2*r+1))),hnext h4,by rw [ykf];exact hxs,oc⟩,?_,by first|omega|(simp only;omega)⟩;simp only;clear v1 v2 v3 v5 hQ hnext hstop;exact si
    .have hd4:(!decide (X[first+r]! < X[first+(2*r+1)]!))=true:=oa h4
     rw [hstop h4] at hQ;(repeat' (first  |refine sy ?_|(refine aZ ?_;intros)|refine yn6 ?_|(refine s2 ?_ ?_<;>intro h7<;>try omega)));exact hQ.g1 (.inr rfl) rfl ⟨rfl,trivial⟩ rfl
   .have hd2:decide (2*(r:Int)+1+1<(hi:Int))=false:=by simp;omega
    by_cases h4:X[first+r]! < X[first+(2*r+1)]!
    .have hd4:(!decide (X[first+r]! < X[first+(2*r+1)]!))=false:=oa h4
     (repeat' (first  |refine sy ?_|(refine aZ ?_;intros)|refine yn6 ?_|(refine s2 ?_ ?_<;>intro h7<;>try omega)));refine⟨⟨(2*r+1,swp X (first+r) (first+(2*r+1))),hnext h4,by rw [ykf];exact hxs,oc⟩,?_,by first|omega|(simp only;omega)⟩;simp only;clear v1 v3 v5 hQ hnext hstop;exact si
    .have hd4:(!decide (X[first+r]! < X[first+(2*r+1)]!))=true:=oa h4
     rw [hstop h4] at hQ;(repeat' (first  |refine sy ?_|(refine aZ ?_;intros)|refine yn6 ?_|(refine s2 ?_ ?_<;>intro h7<;>try omega)));exact hQ.g1 (.inr rfl) rfl ⟨rfl,trivial⟩ rfl
def hbU(hi a K:Nat)(d:Array Int):Nat->Array Int
 | 0=>d
 | j+1=>Go.Sort.siftDown ltInt hi a (K-j-1) (hbU hi a K d j)
theorem ymn(hi a K:Nat)(d:Array Int):∀j,(hbU hi a K d j).size=d.size
 | 0=>rfl
 | j+1=>by rw [hbU,ykz hi a _ _ _ (kac _),ymn]
theorem yoe(hi a K:Nat)(d:Array Int):∀j,j<=K->Go.Sort.heapBuild ltInt hi a K d=Go.Sort.heapBuild ltInt hi a (K-j) (hbU hi a K d j)
 | 0,_=>rfl
 | j+1,h=>by rw [yoe hi a K d j oc,show K-j=(K-(j+1))+1 by omega,Go.Sort.heapBuild];show _=Go.Sort.heapBuild ltInt hi a (K-(j+1)) (Go.Sort.siftDown ltInt hi a (K-j-1) (hbU hi a K d j));rw [show K-j-1=K-(j+1) by omega]
def hpU(a n:Nat)(d:Array Int):Nat->Array Int
 | 0=>d
 | j+1=>Go.Sort.siftDown ltInt (n-j-1) a 0 (swp (hpU a n d j) a (a+(n-j-1)))
theorem ymm(a n:Nat)(d:Array Int):∀j,(hpU a n d j).size=d.size
 | 0=>rfl
 | j+1=>by rw [hpU,ykz _ _ _ _ _ (kac _),ykf,ymm]
theorem yod(a n:Nat)(d:Array Int):∀j,j<=n->Go.Sort.heapPop ltInt a n d=Go.Sort.heapPop ltInt a (n-j) (hpU a n d j)
 | 0,_=>rfl
 | j+1,h=>by rw [yod a n d j oc,show n-j=(n-(j+1))+1 by omega,Go.Sort.heapPop];show _=Go.Sort.heapPop ltInt a (n-(j+1)) (Go.Sort.siftDown ltInt (n-j-1) a 0 (swp (hpU a n d j) a (a+(n-j-1))));rw [show n-j-1=n-(j+1) by omega]
theorem yn4(d:Array Int)(a b:Nat):Go.Sort.heapSort ltInt d a b=hpU a (b-a) (hbU (b-a) a ((b-a-1) / 2+1) d ((b-a-1) / 2+1)) (b-a):=by unfold Go.Sort.heapSort;rw [yoe (b-a) a _ d _ (kac _),kei,yod a (b-a) _ _ (kac _),kei];rfl
theorem esb0{G:Prop}(h:G:=by((repeat' (first|((with_reducible apply kC);first|refine gM (p:=[]) (ys:=[_,_,_,_]) (q:=[]) m1 ?_)|refine sy ?_|(refine aZ ?_;intros)|refine w0 ?_|fail));refine⟨hlt,?_⟩;rw [hX,hj2];exact si)):G:=h
theorem ymz(d:Array Int)(a b:Nat)(hab:a<b)(hb:b<=d.size)(hs:d.size<=100000):zu1 (cx G) 141 [.own 1000,vi a,vi b] [(1000,.buf 1 3 (ia d))] (.tup []) [(1000,.buf 1 3 (ia (Go.Sort.heapSort ltInt d a b)))] []:=by
 refine zeu [(1000,0)] Tryz.func141 rfl Tryz.ntmps141 rfl rfl rfl λQ hQ=>?_;have e1:(b:Int)-(a:Int)=((b-a:Nat):Int):=oc
 generalize hn:b-a=n at e1;have e2:((n:Int)-1) / 2=(((n-1) / 2+1:Nat):Int)-1:=oc
 rw [yn4,hn] at hQ;generalize hK:(n-1) / 2+1=K at e2 hQ;(repeat' (first|refine sy ?_|(refine aZ ?_;intros)|refine w0 ?_|fail));refine zam K (λj=>[(2*0,.av (.own 1000)),(2*6,.av (vi a)),(2*7,.av (vi 0)),(2*8,.av (vi n)),(2*9,.av (vi (((K-j:Nat):Int)-1))),(2*1000+1,.buf 1 3 (ia (hbU n a K d j)))]) ?_ ?_
 .exact si
 .intro j hj;have hsz:=ymn n a K d j;by_cases hlt:j<K
  .obtain⟨i,hi⟩:∃i,K-j=i+1:=⟨K-j-1,oc⟩;have hX:hbU n a K d (j+1)=Go.Sort.siftDown ltInt n a i (hbU n a K d j):=by rw [hbU,hi];rfl
   have hq:((i+1:Nat):Int)-1=(i:Int):=oc
   have hj2:K-(j+1)=i:=oc
   rw [hi,hq];have hd:decide ((0:Int)<=(i:Int))=true:=od
   have m1:=yln (G:=G) (hbU n a K d j) i n a oc oc oc;exact esb0
  .have hjK:j=K:=oc
   subst hjK;rw [kei];have hd:decide ((0:Int)<=((0:Nat):Int)-1)=false:=oe
   generalize hbU n a j d j=D at hQ hsz;(repeat' (first|refine sy ?_|(refine aZ ?_;intros)|refine w0 ?_|fail));refine zam n (λk=>[(2*0,.av (.own 1000)),(2*6,.av (vi a)),(2*7,.av (vi 0)),(2*10,.av (vi (((n-k:Nat):Int)-1))),(2*1000+1,.buf 1 3 (ia (hpU a n D k)))]) ?_ ?_
   .exact si
   .intro k hk;have hsz2:=ymm a n D k;by_cases hlt:k<n
    .obtain⟨i,hi⟩:∃i,n-k=i+1:=⟨n-k-1,oc⟩;have hX:hpU a n D (k+1)=Go.Sort.siftDown ltInt i a 0 (swp (hpU a n D k) a (a+i)):=by rw [hpU,hi];rfl
     generalize hpU a n D k=X at hsz2 hX |-;have hq:((i+1:Nat):Int)-1=(i:Int):=oc
     have hj2:n-(k+1)=i:=oc
     rw [hi,hq];have hd:decide ((0:Int)<=(i:Int))=true:=od
     have q1:(a:Int)+(i:Int)=((a+i:Nat):Int):=oc
     have v1:=yke (show a+i<X.size by omega);have v2:=yke (show a<X.size by omega);have l1:a+i<(ia X).length:=by rw [ykd];omega
     have l2:a<(ia X).length:=by rw [ykd];omega
     have v3:=yko (d:=X) (i:=a) (show a+i<X.size by omega);have l3:=ykp (d:=X) (i:=a) (r:=spl [vi X[a]!] 0 [vi X[a+i]!]) (show a+i<X.size by omega);have hsw:=yk2 X a (a+i);have m1:=yln (G:=G) (swp X a (a+i)) 0 i a (by rw [ykf];omega) (by rw [ykf];omega) oc;rw [hsw] at m1;exact esb0
    .have hjK:k=n:=oc
     subst hjK;rw [kei];have hd:decide ((0:Int)<=((0:Nat):Int)-1)=false:=oe
     (repeat' (first|refine sy ?_|(refine aZ ?_;intros)|refine w0 ?_|fail));exact hQ.g1 (.inl rfl) rfl ⟨rfl,trivial⟩ rfl
end
end Go.Ab.J
namespace Go.Ab.J
open Go
theorem rNil{E:Env}{w:World}:yf1 E w [] []:=yf1.nil _ _
end Go.Ab.J
