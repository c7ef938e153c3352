/- What all laws about sales rest on, beside any goroutines. Conditions: none. -/
import Derived.Test.YtfgciihkmemdlaaGreatDoorZA
namespace Go.Ab.J
open Go Go.Proofs Go.Kp
open Go.Sort (swp ltInt)
section
variable{G:zbf}
theorem aSK{C:Cx}{r:Option Nat}{N:Nat}{s:AS}{c e:Code}{Q:Exit->AS->Prop}{ι:Type}(St:ι->AS)(F:ι->Prop)(k:∀i,F i->AW C r N e Q (St i))(h:∀P:AS->Prop,(∀s i,F i->Sub C.G N s (St i)->P s)->AW C r N c (zii P Q) s):AW C r N (.seq c e) Q s :=
 ybl λP hP=>h P λs i hi hs=>hP s (zbx hs (k i hi))
theorem ap2{P:Prop}{Q:Exit->AS->Prop}{i:Nat}{s:AS}(n:P)(h:Wr P->Q (.exit i) s:=by(intro n;(with_reducible apply_assumption -exfalso -symm);all_goals first|exact Eq.refl false|exact n.p)):Q (.exit i) s:=h ⟨n⟩
theorem yny(m:Nat)(Z:Array Int):Go.Sort.shiftDown ltInt (m+1) Z=if Z[m+1]! < Z[m]! then Go.Sort.shiftDown ltInt m (swp Z (m+1) m) else Z:=by rw [Go.Sort.shiftDown];by_cases h:Z[m+1]! < Z[m]!<;>simp [h,ltInt]
theorem ymh(d:Array Int)(b i:Nat):Go.Sort.scanSorted ltInt d b i=if i<b/\¬d[i]! < d[i-1]! then Go.Sort.scanSorted ltInt d b (i+1) else i:=by
 rw [Go.Sort.scanSorted];by_cases h1:i<b
 .by_cases h2:d[i]! < d[i-1]!<;>simp [h1,h2,ltInt]
 .simp [h1]
theorem ylo(d:Array Int)(b:Nat):∀n i,b-i=n->i<=b->i<=Go.Sort.scanSorted ltInt d b i/\Go.Sort.scanSorted ltInt d b i<=b
 | 0,i,h,hi=>by rw [ymh,if_neg oc];omega
 | n+1,i,h,hi=>by
   rw [ymh];split
   .have:=ylo d b n (i+1) oc oc;omega
   .omega
theorem yla:∀(j:Nat) (d:Array Int),(Go.Sort.shiftDown ltInt j d).size=d.size
 | 0,d=>rfl
 | j+1,d=>by
   rw [Go.Sort.shiftDown];split
   .rfl
   .rw [yla j,ykf]
theorem yoo(b j:Nat)(d:Array Int):Go.Sort.shiftUp ltInt b j d=if j<b then (if d[j]! < d[j-1]! then Go.Sort.shiftUp ltInt b (j+1) (swp d j (j-1)) else d) else d:=by
 rw [Go.Sort.shiftUp];by_cases h1:j<b
 .by_cases h2:d[j]! < d[j-1]!<;>simp [h1,h2,ltInt]
 .simp [h1]
attribute [local irreducible] AOp AW ADr AFn ze1 AFt AOpJ
set_option maxRecDepth 20000
set_option maxHeartbeats 16000000
abbrev pSt(a b i j:Nat)(X:Array Int):AS:=[(2*0,.av (.own 1000)),(2*1,.av (vi a)),(2*2,.av (vi b)),(2*7,.av (vi i)),(2*8,.av (vi j)),(2*1000+1,.buf 1 3 (ia X))]
theorem yl0{P G:Prop}(n:P)(h:Wr P->G:=by(intro n;first|((with_reducible apply kC);first|exact gB ⟨_,z70 _ _,.mk rfl n.p⟩|exact gK n.p|exact gS n.p)|exact⟨_,z70 _ _,n.p⟩|exact sk n.p|exact ap n.p)):G:=h ⟨n⟩
theorem yl6(d:Array Int)(a b:Nat)(hab:a<b)(hb:b<=d.size)(hs:d.size<=100000):zu1 (cx G) 177 [.own 1000,vi a,vi b] [(1000,.buf 1 3 (ia d))] (vb (Go.Sort.partialInsertionSort ltInt d a b).2) [(1000,.buf 1 3 (ia (Go.Sort.partialInsertionSort ltInt d a b).1))] []:=by
 refine zeu [(1000,0)] Tryz.func177 rfl Tryz.ntmps177 rfl rfl rfl λQ hQ=>?_;have e0:vi ((a:Int)+1)=vi ((a+1:Nat):Int):=od
 (repeat' (first|refine sy ?_|(refine aZ ?_;intros)|refine yl0 ?_|fail));refine z2s (ι:={x:Nat×Nat×Array Int // x.1<=5/\Go.Sort.partialInsertionSort ltInt d a b=Go.Sort.partialIns ltInt a b (5-x.1) x.2.1 x.2.2/\x.2.2.size=d.size/\a+1<=x.2.1/\x.2.1<=b}) (λx=>pSt a b x.1.2.1 x.1.1 x.1.2.2) (λx=>5-x.1.1) ⟨(0,a+1,d),by simp only;omega,rfl,rfl,kac _,hab⟩ ?_ ?_
 .exact si
 .rintro⟨⟨j,i,X⟩,hj5,hP,hxs,hi1,hi2⟩;simp only at hj5 hP hxs hi1 hi2 |-;by_cases hj:j<5
  .have hdj:decide ((j:Int)<5)=true:=by simp;omega
   have ej:vi ((j:Int)+1)=vi ((j+1:Nat):Int):=od
   obtain⟨k1,k2⟩:=ylo X b _ i rfl hi2;rw [show 5-j=(5-(j+1))+1 by omega,Go.Sort.partialIns_succ] at hP;generalize hk:Go.Sort.scanSorted ltInt X b i=k at k1 k2 hP;(repeat' (first|refine aSK (c:=.block 2 _) (λ_:Unit=>pSt a b k j X) (λ_=>True) ?_ ?_|refine sy ?_|(refine aZ ?_;intros)|refine yl0 ?_|fail))
   ·
    intro _ _;by_cases hkb:k=b
    .have hdk:decide ((k:Int)=(b:Int))=true:=by simp;omega
     rw [if_pos hkb] at hP;rw [hP] at hQ;(repeat' (first|refine sy ?_|(refine aZ ?_;intros)|refine yl0 ?_|fail));exact hQ.g1 (.inr rfl) rfl ⟨rfl,trivial⟩ rfl
    have hdk:decide ((k:Int)=(b:Int))=false:=by simp;omega
    rw [if_neg hkb] at hP;by_cases h50:b-a<50
    .have hd5:decide ((b:Int)-(a:Int)<50)=true:=by simp;omega
     rw [if_pos h50] at hP;rw [hP] at hQ;(repeat' (first|refine sy ?_|(refine aZ ?_;intros)|refine yl0 ?_|fail));exact hQ.g1 (.inr rfl) rfl ⟨rfl,trivial⟩ rfl
    have hd5:decide ((b:Int)-(a:Int)<50)=false:=by simp;omega
    rw [if_neg h50] at hP;have q1:(k:Int)-1=((k-1:Nat):Int):=oc
    have v1:=yke (show k<X.size by omega);have v2:=yke (show k-1<X.size by omega);have l1:k<(ia X).length:=by rw [ykd];omega
    have l2:k-1<(ia X).length:=by rw [ykd];omega
    have v3:=yko (d:=X) (i:=k) (show k-1<X.size by omega);have l3:=ykp (d:=X) (i:=k) (r:=spl [vi X[k]!] 0 [vi X[k-1]!]) (show k-1<X.size by omega);have hsw:=yk2 X k (k-1);rw [Go.Sort.fixUp] at hP;have hF:(Go.Sort.fixDown ltInt a k (swp X k (k-1))).size=d.size:=by
     unfold Go.Sort.fixDown;split
     .rw [yla,ykf];exact hxs
     .rw [ykf];exact hxs
    (repeat' (first|refine aSK (c:=.seq (.region 12 _ _) _) (λ_:Unit=>pSt a b k j (Go.Sort.fixDown ltInt a k (swp X k (k-1)))) (λ_=>True) ?_ ?_|refine sy ?_|(refine aZ ?_;intros)|refine yl0 ?_|fail))
    ·
     intro _ _;generalize Go.Sort.fixDown ltInt a k (swp X k (k-1))=Y at hF hP |-;by_cases h2:2<=b-k
     .have hd2:decide ((2:Int)<=(b:Int)-(k:Int))=true:=by simp;omega
      have ek:vi ((k:Int)+1)=vi ((k+1:Nat):Int):=od
      rw [if_pos h2] at hP;(repeat' (first|refine sy ?_|(refine aZ ?_;intros)|refine yl0 ?_|fail));refine z2s (ι:={x:Nat×Array Int // Go.Sort.shiftUp ltInt b (k+1) Y=Go.Sort.shiftUp ltInt b x.1 x.2/\x.2.size=d.size/\1<=x.1/\x.1<=b}) (λx=>(2*10,.av (vi x.1.1))::pSt a b k j x.1.2) (λx=>b-x.1.1) ⟨(k+1,Y),rfl,hF,by simp only;omega,by simp only;omega⟩ ?_ ?_
      .exact si
      .rintro⟨⟨m,Z⟩,hZ,hZs,hm1,hm2⟩;simp only at hZ hZs hm1 hm2 |-;rw [yoo b m] at hZ;by_cases hmb:m<b
       .have hdm:decide ((m:Int)<(b:Int))=true:=by simp;omega
        have q1:(m:Int)-1=((m-1:Nat):Int):=oc
        have v1:=yke (show m<Z.size by omega);have v2:=yke (show m-1<Z.size by omega);have l1:m<(ia Z).length:=by rw [ykd];omega
        have l2:m-1<(ia Z).length:=by rw [ykd];omega
        rw [if_pos hmb] at hZ;by_cases hl:Z[m]! < Z[m-1]!
        .have hdl:(!decide (Z[m]! < Z[m-1]!))=false:=oa hl
         rw [if_pos hl] at hZ;have v3:=yko (d:=Z) (i:=m) (show m-1<Z.size by omega);have l3:=ykp (d:=Z) (i:=m) (r:=spl [vi Z[m]!] 0 [vi Z[m-1]!]) (show m-1<Z.size by omega);have hsw:=yk2 Z m (m-1);have em:vi ((m:Int)+1)=vi ((m+1:Nat):Int):=od
         (repeat' (first|refine sy ?_|(refine aZ ?_;intros)|refine yl0 ?_|(refine s2 ?_ ?_<;>intro h7<;>try omega)|fail));refine⟨⟨(m+1,swp Z m (m-1)),hZ,by rw [ykf];exact hZs,by simp only;omega,by simp only;omega⟩,?_,by first|omega|(simp only;omega)⟩;simp only;clear hZ hP v1 v2 v3 hQ;exact si
        .have hdl:(!decide (Z[m]! < Z[m-1]!))=true:=oa hl
         rw [if_neg hl] at hZ;rw [hZ] at hP;(repeat' (first|refine sy ?_|(refine aZ ?_;intros)|refine yl0 ?_|(refine s2 ?_ ?_<;>intro h7<;>try omega)|refine ap2 ?_));refine⟨⟨(j+1,k,Z),by simp only;omega,hP,hZs,by simp only;omega,by simp only;omega⟩,?_,by first|omega|(simp only;omega)⟩;simp only;clear hZ hP v1 v2 hQ;exact si
       .have hdm:decide ((m:Int)<(b:Int))=false:=by simp;omega
        rw [if_neg hmb] at hZ;rw [hZ] at hP;(repeat' (first|refine sy ?_|(refine aZ ?_;intros)|refine yl0 ?_|fail));refine⟨⟨(j+1,k,Z),by simp only;omega,hP,hZs,by simp only;omega,by simp only;omega⟩,?_,by first|omega|(simp only;omega)⟩;simp only;clear hZ hP hQ;exact si
     .have hd2:decide ((2:Int)<=(b:Int)-(k:Int))=false:=by simp;omega
      rw [if_neg h2] at hP;(repeat' (first|refine sy ?_|(refine aZ ?_;intros)|refine yl0 ?_|fail));refine⟨⟨(j+1,k,Y),by simp only;omega,hP,hF,by simp only;omega,by simp only;omega⟩,?_,by first|omega|(simp only;omega)⟩;simp only;clear hP hQ;exact si
    ·
     intro P8 h0;rw [<-hsw];have hY:(swp X k (k-1)).size=d.size:=by rw [ykf];exact hxs
     clear hsw v3 l3 v1 v2 hP hF;unfold Go.Sort.fixDown at h0;generalize swp X k (k-1)=Y at hY h0 |-;have h8:∀s,Sub (cx G).G 133 s (pSt a b k j (if k-a >= 2 then Go.Sort.shiftDown ltInt (k-1) Y else Y))->P8 s:=λs h=>h0 s () trivial h;clear h0;by_cases h2:2<=k-a
     .have hd2:decide ((2:Int)<=(k:Int)-(a:Int))=true:=by simp;omega
      have ek:vi ((k:Int)-1)=vi ((k-1:Nat):Int):=by rw [q1]
      rw [if_pos h2] at h8;(repeat' (first|refine sy ?_|(refine aZ ?_;intros)|refine yl0 ?_|fail));refine z2s (ι:={x:Nat×Array Int // Go.Sort.shiftDown ltInt (k-1) Y=Go.Sort.shiftDown ltInt x.1 x.2/\x.2.size=d.size/\x.1<d.size}) (λx=>(2*9,.av (vi x.1.1))::pSt a b k j x.1.2) (λx=>x.1.1) ⟨(k-1,Y),rfl,hY,by simp only;omega⟩ ?_ ?_
      .exact si
      .rintro⟨⟨m,Z⟩,hZ,hZs,hm⟩;simp only at hZ hZs hm |-;cases m with
       | zero =>
         have hdm:decide ((1:Int)<=((0:Nat):Int))=false:=oe
         replace hZ:=hZ.trans (show Go.Sort.shiftDown ltInt 0 Z=Z from rfl);rw [hZ] at h8;(repeat' (first|refine sy ?_|(refine aZ ?_;intros)|refine yl0 ?_|fail));clear hZ h8 hQ;exact si
       | succ m =>
         have hdm:decide ((1:Int)<=((m+1:Nat):Int))=true:=by simp;omega
         have q2:((m+1:Nat):Int)-1=((m:Nat):Int):=oc
         have v1:=yke (show m+1<Z.size by omega);have v2:=yke (show m<Z.size by omega);have l1:m+1<(ia Z).length:=by rw [ykd];omega
         have l2:m<(ia Z).length:=by rw [ykd];omega
         replace hZ:=hZ.trans (yny m Z);by_cases hl:Z[m+1]! < Z[m]!
         .have hdl:(!decide (Z[m+1]! < Z[m]!))=false:=oa hl
          rw [if_pos hl] at hZ;have v3:=yko (d:=Z) (i:=m+1) (show m<Z.size by omega);have l3:=ykp (d:=Z) (i:=m+1) (r:=spl [vi Z[m+1]!] 0 [vi Z[m]!]) (show m<Z.size by omega);have hsw:=yk2 Z (m+1) m;(repeat' (first|refine sy ?_|(refine aZ ?_;intros)|refine yl0 ?_|(refine s2 ?_ ?_<;>intro h7<;>try omega)|fail))
          refine⟨⟨(m,swp Z (m+1) m),hZ,by rw [ykf];exact hZs,by simp only;omega⟩,?_,by first|omega|(simp only;omega)⟩;simp only;clear hZ h8 v1 v2 v3 hQ;exact si
         .have hdl:(!decide (Z[m+1]! < Z[m]!))=true:=oa hl
          rw [if_neg hl] at hZ;rw [hZ] at h8;(repeat' (first|refine sy ?_|(refine aZ ?_;intros)|refine yl0 ?_|(refine s2 ?_ ?_<;>intro h7<;>try omega)|refine ap2 ?_));clear hZ h8 v1 v2 hQ;exact si
     .have hd2:decide ((2:Int)<=(k:Int)-(a:Int))=false:=by simp;omega
      rw [if_neg h2] at h8;(repeat' (first|refine sy ?_|(refine aZ ?_;intros)|refine yl0 ?_|fail));clear h8 hQ;exact si
   ·
    intro P8 h0;have h8:∀s,Sub (cx G).G 133 s (pSt a b k j X)->P8 s:=λs h=>h0 s () trivial h;clear h0;refine aB λP7 _ _ _ _=>?_;refine z2s (ι:={x:Nat // Go.Sort.scanSorted ltInt X b i=Go.Sort.scanSorted ltInt X b x/\1<=x/\x<=b}) (λx=>pSt a b x.1 j X) (λx=>b-x.1) ⟨i,rfl,oc,hi2⟩ ?_ ?_
    .exact si
    .rintro⟨m,hZ,hm1,hm2⟩;simp only at hZ hm1 hm2 |-;rw [hk,ymh X b m] at hZ;have q1:(m:Int)-1=((m-1:Nat):Int):=oc
     have em:vi ((m:Int)+1)=vi ((m+1:Nat):Int):=od
     by_cases hmb:m<b
     .have hdm:decide ((m:Int)<(b:Int))=true:=by simp;omega
      have v1:=yke (show m<X.size by omega);have v2:=yke (show m-1<X.size by omega);have l1:m<(ia X).length:=by rw [ykd];omega
      have l2:m-1<(ia X).length:=by rw [ykd];omega
      by_cases hl:X[m]! < X[m-1]!
      .have hdl:(!decide (X[m]! < X[m-1]!))=false:=oa hl
       rw [if_neg (λh=>h.2 hl)] at hZ;subst hZ;(repeat' (first|refine sy ?_|(refine aZ ?_;intros)|refine yl0 ?_|(refine s2 ?_ ?_<;>intro h7<;>try omega)|fail));clear h8 v1 v2 hQ hP;exact si
      .have hdl:(!decide (X[m]! < X[m-1]!))=true:=oa hl
       rw [if_pos ⟨hmb,hl⟩] at hZ;(repeat' (first|refine sy ?_|(refine aZ ?_;intros)|refine yl0 ?_|(refine s2 ?_ ?_<;>intro h7<;>try omega)|fail));refine⟨⟨m+1,hk.trans hZ,oc,oc⟩,?_,by first|omega|(simp only;omega)⟩;simp only;clear hZ h8 v1 v2 hQ hP;exact si
     .have hdm:decide ((m:Int)<(b:Int))=false:=by simp;omega
      rw [if_neg (λh=>hmb h.1)] at hZ;subst hZ;(repeat' (first|refine sy ?_|(refine aZ ?_;intros)|refine yl0 ?_|fail));clear h8 hQ hP;exact si
  .have hdj:decide ((j:Int)<5)=false:=by simp;omega
   have hj0:5-j=0:=oc
   rw [hj0,Go.Sort.partialIns] at hP;rw [hP] at hQ;(repeat' (first|refine sy ?_|(refine aZ ?_;intros)|refine yl0 ?_|fail));exact hQ.g1 (.inr rfl) rfl ⟨rfl,trivial⟩ rfl
end
end Go.Ab.J
namespace Go.Ab.J
open Go Go.Proofs Go.Kp
open Go.Sort (swp ltInt scanUp scanDown)
section
variable{G:zbf}
theorem ym8(p:Int->Bool)(d:Array Int)(j i:Nat):scanUp p d j i=if i<=j/\p d[i]! = true then scanUp p d j (i+1) else i:=by
 rw [scanUp];by_cases h1:i<=j
 .by_cases h2:p d[i]! = true<;>simp [h1,h2]
 .simp [h1]
theorem yob(p:Int->Bool)(d:Array Int)(j:Nat):∀n i,j+1-i=n->i<=j+1->scanUp p d j i<=j+1
 | 0,i,h,hi=>by rw [ym8,if_neg oc];exact hi
 | n+1,i,h,hi=>by
   rw [ym8];split
   .exact yob p d j n (i+1) oc oc
   .exact hi
theorem ym0(p:Int->Bool)(d:Array Int)(i j:Nat):scanDown p d i (j+1)=if i<=j+1/\p d[j+1]! = true then scanDown p d i j else j+1:=by
 rw [scanDown];by_cases h1:i<=j+1
 .by_cases h2:p d[j+1]! = true<;>simp [h1,h2]
 .simp [h1]
attribute [local irreducible] AOp AW ADr AFn ze1 AFt AOpJ
set_option maxRecDepth 20000
set_option maxHeartbeats 16000000
abbrev qSt(a i j:Nat)(X:Array Int):AS:=[(2*0,.av (.own 1000)),(2*1,.av (vi a)),(2*9,.av (vi i)),(2*10,.av (vi j)),(2*1000+1,.buf 1 3 (ia X))]
theorem ynl{P G:Prop}(n:P)(h:Wr P->G:=by(intro n;first|((with_reducible apply kC);first|exact gB ⟨_,z70 _ _,.mk rfl n.p⟩|exact gK n.p|exact gS n.p)|exact⟨_,z70 _ _,n.p⟩|exact sk n.p|exact ap n.p)):G:=h ⟨n⟩
theorem esf0{G:Prop}(h:G:=by((repeat' (first|refine sy ?_|(refine aZ ?_;intros)|refine ynl ?_|(refine s2 ?_ ?_<;>intro h7<;>try omega)|fail));clear h8 v1 va hQ hP;exact si)):G:=h
theorem yn1(d:Array Int)(a b pivot:Nat)(hab:a<b)(hp:pivot<d.size)(hb:b<=d.size)(hs:d.size<=100000):zu1 (cx G) 179 [.own 1000,vi a,vi b,vi pivot] [(1000,.buf 1 3 (ia d))] (vi (Go.Sort.partitionEqual ltInt d a b pivot).1) [(1000,.buf 1 3 (ia (Go.Sort.partitionEqual ltInt d a b pivot).2))] []:=by
 refine zeu [(1000,0)] Tryz.func179 rfl Tryz.ntmps179 rfl rfl rfl λQ hQ=>?_;have w1:=yke (show pivot<d.size by omega);have w2:=yke (show a<d.size by omega);have u1:pivot<(ia d).length:=by rw [ykd];omega
 have u2:a<(ia d).length:=by rw [ykd];omega
 have w3:=yko (d:=d) (i:=a) (show pivot<d.size by omega);have u3:=ykp (d:=d) (i:=a) (r:=spl [vi d[a]!] 0 [vi d[pivot]!]) (show pivot<d.size by omega);have hsw:=yk2 d a pivot;have e0:vi ((a:Int)+1)=vi ((a+1:Nat):Int):=od
 have e1:vi ((b:Int)-1)=vi ((b-1:Nat):Int):=by congr 2;omega
 (repeat' (first|refine sy ?_|(refine aZ ?_;intros)|refine ynl ?_|fail))
 refine z2s (ι:={x:Nat×Nat×Array Int // Go.Sort.partitionEqual ltInt d a b pivot=Go.Sort.partEqLoop ltInt a x.1 x.2.1 x.2.2/\x.2.2.size=d.size/\a<x.1/\x.1<=d.size/\x.2.1<d.size}) (λx=>qSt a x.1.1 x.1.2.1 x.1.2.2) (λx=>x.1.2.1+1-x.1.1) ⟨(a+1,b-1,swp d a pivot),rfl,ykf _ _ _,by simp only;omega,by simp only;omega,by simp only;omega⟩ ?_ ?_
 .clear w3 u3;exact si
 .clear hsw w1 w2 w3 u1 u2 u3;rintro⟨⟨i,j,X⟩,hP,hxs,hi1,hi2,hj⟩;simp only at hP hxs hi1 hi2 hj |-;rw [Go.Sort.partEqLoop_eq] at hP;have va:=yke (show a<X.size by omega);have la:a<(ia X).length:=by rw [ykd];omega
  have g1':=Go.Sort.scanUp_ge (λx=>!ltInt X[a]! x) X j i;generalize hu:scanUp (λx=>!ltInt X[a]! x) X j i=i2 at g1' hP;have g2':=Go.Sort.scanDown_le (λx=>ltInt X[a]! x) X i2 j;generalize hv:scanDown (λx=>ltInt X[a]! x) X i2 j=j2 at g2';(repeat' (first|refine aSK (c:=.block 2 _) (λ_:Unit=>qSt a i2 j X) (λ_=>True) ?_ ?_|refine sy ?_|(refine aZ ?_;intros)|refine ynl ?_|fail))
  ·
   intro _ _;(repeat' (first|refine aSK (c:=.block 4 _) (λ_:Unit=>qSt a i2 j2 X) (λ_=>True) ?_ ?_|refine sy ?_|refine ynl ?_|fail))
   ·
    intro _ _;have hup:=yob (λx=>!ltInt X[a]! x) X j _ i rfl;by_cases hg:i2 > j2
    .have hdg:decide ((j2:Int)<(i2:Int))=true:=by simp;omega
     rw [hv,if_pos hg] at hP;rw [hP] at hQ;(repeat' (first|refine sy ?_|(refine aZ ?_;intros)|refine ynl ?_|refine ap2 ?_));exact hQ.g1 (.inr rfl) rfl ⟨rfl,trivial⟩ rfl
    .have hdg:decide ((j2:Int)<(i2:Int))=false:=by simp;omega
     rw [hv,if_neg hg] at hP;have v1:=yke (show i2<X.size by omega);have v2:=yke (show j2<X.size by omega);have l1:i2<(ia X).length:=by rw [ykd];omega
     have l2:j2<(ia X).length:=by rw [ykd];omega
     have v3:=yko (d:=X) (i:=i2) (show j2<X.size by omega);have l3:=ykp (d:=X) (i:=i2) (r:=spl [vi X[i2]!] 0 [vi X[j2]!]) (show j2<X.size by omega);have hsw:=yk2 X i2 j2;have e2:vi ((i2:Int)+1)=vi ((i2+1:Nat):Int):=od
     have e3:vi ((j2:Int)-1)=vi ((j2-1:Nat):Int):=by congr 2;omega
     (repeat' (first|refine sy ?_|(refine aZ ?_;intros)|refine ynl ?_|fail));refine⟨⟨(i2+1,j2-1,swp X i2 j2),hP,by rw [ykf];exact hxs,by simp only;omega,by simp only;omega,by simp only;omega⟩,?_,by first|omega|(simp only;omega)⟩;simp only;clear hP v1 v2 v3 va hQ;exact si
   ·
    intro P8 h0;have h8:∀s,Sub (cx G).G 84 s (qSt a i2 j2 X)->P8 s:=λs h=>h0 s () trivial h;clear h0;refine aB λP7 _ _ _ _=>?_;refine z2s (ι:={x:Nat // scanDown (λx=>ltInt X[a]! x) X i2 j=scanDown (λx=>ltInt X[a]! x) X i2 x/\x<d.size}) (λx=>qSt a i2 x.1 X) (λx=>x.1) ⟨j,rfl,hj⟩ ?_ ?_
    .exact si
    .rintro⟨m,hZ,hm⟩;simp only at hZ hm |-;rw [hv] at hZ;by_cases hmj:i2<=m
     .obtain⟨m,rfl⟩:∃m',m=m'+1:=⟨m-1,oc⟩;have hdm:decide ((i2:Int)<=((m+1:Nat):Int))=true:=by simp;omega
      have q1:((m+1:Nat):Int)-1=((m:Nat):Int):=oc
      have v1:=yke (show m+1<X.size by omega);have l1:m+1<(ia X).length:=by rw [ykd];omega
      rw [ym0 _ X i2 m] at hZ;by_cases hl:X[a]! < X[m+1]!
      .have hdl:decide (X[a]! < X[m+1]!)=true:=oa hl
       rw [if_pos ⟨hmj,by simp [ltInt];exact hl⟩] at hZ;(repeat' (first|refine sy ?_|(refine aZ ?_;intros)|refine ynl ?_|fail));refine⟨⟨m,hv.trans hZ,oc⟩,?_,by first|omega|(simp only;omega)⟩;simp only;clear hZ h8 v1 va hQ hP;exact si
      .have hdl:decide (X[a]! < X[m+1]!)=false:=oa hl
       rw [if_neg oN] at hZ;subst hZ;exact esf0
     .have hdm:decide ((i2:Int)<=(m:Int))=false:=by simp;omega
      have hz:j2=m:=by
       rw [hZ];cases m with
       | zero=>rfl
       | succ m=>rw [ym0,if_neg (λh=>hmj h.1)]
      subst hz;(repeat' (first|refine sy ?_|(refine aZ ?_;intros)|refine ynl ?_|fail));clear hZ h8 va hQ hP;exact si
  ·
   intro P8 h0;have h8:∀s,Sub (cx G).G 84 s (qSt a i2 j X)->P8 s:=λs h=>h0 s () trivial h;clear h0;refine aB λP7 _ _ _ _=>?_;refine z2s (ι:={x:Nat // scanUp (λx=>!ltInt X[a]! x) X j i=scanUp (λx=>!ltInt X[a]! x) X j x/\a<x/\x<=d.size}) (λx=>qSt a x.1 j X) (λx=>j+1-x.1) ⟨i,rfl,hi1,hi2⟩ ?_ ?_
   .exact si
   .rintro⟨m,hZ,hm1,hm2⟩;simp only at hZ hm1 hm2 |-;rw [hu,ym8 _ X j m] at hZ;have em:vi ((m:Int)+1)=vi ((m+1:Nat):Int):=od
    by_cases hmj:m<=j
    .have hdm:decide ((m:Int)<=(j:Int))=true:=by simp;omega
     have v1:=yke (show m<X.size by omega);have l1:m<(ia X).length:=by rw [ykd];omega
     by_cases hl:X[a]! < X[m]!
     .have hdl:(!decide (X[a]! < X[m]!))=false:=oa hl
      rw [if_neg (by simp [ltInt];intro _;exact hl)] at hZ;subst hZ;exact esf0
     .have hdl:(!decide (X[a]! < X[m]!))=true:=oa hl
      rw [if_pos ⟨hmj,by simp [ltInt];omega⟩] at hZ;(repeat' (first|refine sy ?_|(refine aZ ?_;intros)|refine ynl ?_|(refine s2 ?_ ?_<;>intro h7<;>try omega)|fail));refine⟨⟨m+1,hu.trans hZ,oc,oc⟩,?_,by first|omega|(simp only;omega)⟩;simp only;clear hZ h8 v1 va hQ hP;exact si
    .have hdm:decide ((m:Int)<=(j:Int))=false:=by simp;omega
     rw [if_neg (λh=>hmj h.1)] at hZ;subst hZ;(repeat' (first|refine sy ?_|(refine aZ ?_;intros)|refine ynl ?_|fail));clear h8 va hQ hP;exact si
end
end Go.Ab.J
