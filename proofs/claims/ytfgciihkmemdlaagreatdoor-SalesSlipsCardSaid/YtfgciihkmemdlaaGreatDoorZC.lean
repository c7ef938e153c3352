/- What all laws about sales rest on, beside any goroutines. Conditions: none. -/
import Derived.Test.YtfgciihkmemdlaaGreatDoorZB
namespace Go.Ab.J
open Go Go.Proofs Go.Kp
open Go.Sort (swp ltInt scanUp scanDown)
section
variable{G:zbf}
theorem yl7(a:Nat):∀n i j (d:Array Int),j+1-i<=n->(Go.Sort.partLoop ltInt a i j d).1<=j/\(Go.Sort.partLoop ltInt a i j d).2.size=d.size
 | 0,i,j,d,h=>by have h1:=Go.Sort.scanUp_ge (λx=>ltInt x d[a]!) d j i;have h2:=Go.Sort.scanDown_le (λx=>!ltInt x d[a]!) d (scanUp (λx=>ltInt x d[a]!) d j i) j;rw [Go.Sort.partLoop_eq,if_pos oc];exact⟨h2,rfl⟩
 | n+1,i,j,d,h=>by
   have h1:=Go.Sort.scanUp_ge (λx=>ltInt x d[a]!) d j i;have h2:=Go.Sort.scanDown_le (λx=>!ltInt x d[a]!) d (scanUp (λx=>ltInt x d[a]!) d j i) j;rw [Go.Sort.partLoop_eq];generalize scanUp (λx=>ltInt x d[a]!) d j i=i2 at h1 h2 |-;generalize scanDown (λx=>!ltInt x d[a]!) d i2 j=j2 at h2 |-;split
   .exact⟨h2,rfl⟩
   .have:=yl7 a n (i2+1) (j2-1) (swp d i2 j2) oc;exact⟨oc,by rw [this.2,ykf]⟩
attribute [local irreducible] AOp AW ADr AFn ze1 AFt AOpJ
set_option maxRecDepth 20000
set_option maxHeartbeats 16000000
abbrev rSt(a i j:Nat)(X:Array Int):AS:=[(2*0,.av (.own 1000)),(2*1,.av (vi a)),(2*10,.av (vi i)),(2*11,.av (vi j)),(2*1000+1,.buf 1 3 (ia X))]
abbrev tSt(a j:Nat)(X:Array Int):AS:=[(2*0,.av (.own 1000)),(2*1,.av (vi a)),(2*11,.av (vi j)),(2*1000+1,.buf 1 3 (ia X))]
theorem ylk{P G:Prop}(n:P)(h:Wr P->G:=by(intro n;first|((with_reducible apply kC);first|exact gB ⟨_,z70 _ _,.mk rfl n.p⟩|exact gK n.p|exact gS n.p)|exact⟨_,z70 _ _,n.p⟩|exact sk n.p|exact ap n.p)):G:=h ⟨n⟩
theorem esg0{G:Prop}(h:G:=by((repeat' (first|refine sy ?_|(refine aZ ?_;intros)|refine ylk ?_|(refine s2 ?_ ?_<;>intro h7<;>try omega)|fail));clear h8 v1 va hQ hP;exact si)):G:=h
theorem esg1{G:Prop}(h:G:=by((repeat' (first|refine sy ?_|(refine aZ ?_;intros)|refine ylk ?_|fail));clear hZ h8 va hQ hP;exact si)):G:=h
theorem esg2{G:Prop}(h:G:=by((repeat' (first|refine sy ?_|(refine aZ ?_;intros)|refine ylk ?_|fail));clear h8 va hQ hP;exact si)):G:=h
theorem yoy(d:Array Int)(a b pivot:Nat)(hab:a<b)(hp:pivot<d.size)(hb:b<=d.size)(hs:d.size<=100000):zu1 (cx G) 180 [.own 1000,vi a,vi b,vi pivot] [(1000,.buf 1 3 (ia d))] (.tup [vi (Go.Sort.partition ltInt d a b pivot).1,vb (Go.Sort.partition ltInt d a b pivot).2.1]) [(1000,.buf 1 3 (ia (Go.Sort.partition ltInt d a b pivot).2.2))] []:=by
 refine zeu [(1000,0)] Tryz.func180 rfl Tryz.ntmps180 rfl rfl rfl λQ hQ=>?_
 have hP:Go.Sort.partition ltInt d a b pivot=(if scanUp (λx=>ltInt x (swp d a pivot)[a]!) (swp d a pivot) (b-1) (a+1) > scanDown (λx=>!ltInt x (swp d a pivot)[a]!) (swp d a pivot) (scanUp (λx=>ltInt x (swp d a pivot)[a]!) (swp d a pivot) (b-1) (a+1)) (b-1) then (scanDown (λx=>!ltInt x (swp d a pivot)[a]!) (swp d a pivot) (scanUp (λx=>ltInt x (swp d a pivot)[a]!) (swp d a pivot) (b-1) (a+1)) (b-1),true,swp (swp d a pivot) (scanDown (λx=>!ltInt x (swp d a pivot)[a]!) (swp d a pivot) (scanUp (λx=>ltInt x (swp d a pivot)[a]!) (swp d a pivot) (b-1) (a+1)) (b-1)) a) else ((Go.Sort.partLoop ltInt a (scanUp (λx=>ltInt x (swp d a pivot)[a]!) (swp d a pivot) (b-1) (a+1)+1) (scanDown (λx=>!ltInt x (swp d a pivot)[a]!) (swp d a pivot) (scanUp (λx=>ltInt x (swp d a pivot)[a]!) (swp d a pivot) (b-1) (a+1)) (b-1)-1) (swp (swp d a pivot) (scanUp (λx=>ltInt x (swp d a pivot)[a]!) (swp d a pivot) (b-1) (a+1)) (scanDown (λx=>!ltInt x (swp d a pivot)[a]!) (swp d a pivot) (scanUp (λx=>ltInt x (swp d a pivot)[a]!) (swp d a pivot) (b-1) (a+1)) (b-1)))).1,false,swp (Go.Sort.partLoop ltInt a (scanUp (λx=>ltInt x (swp d a pivot)[a]!) (swp d a pivot) (b-1) (a+1)+1) (scanDown (λx=>!ltInt x (swp d a pivot)[a]!) (swp d a pivot) (scanUp (λx=>ltInt x (swp d a pivot)[a]!) (swp d a pivot) (b-1) (a+1)) (b-1)-1) (swp (swp d a pivot) (scanUp (λx=>ltInt x (swp d a pivot)[a]!) (swp d a pivot) (b-1) (a+1)) (scanDown (λx=>!ltInt x (swp d a pivot)[a]!) (swp d a pivot) (scanUp (λx=>ltInt x (swp d a pivot)[a]!) (swp d a pivot) (b-1) (a+1)) (b-1)))).2 (Go.Sort.partLoop ltInt a (scanUp (λx=>ltInt x (swp d a pivot)[a]!) (swp d a pivot) (b-1) (a+1)+1) (scanDown (λx=>!ltInt x (swp d a pivot)[a]!) (swp d a pivot) (scanUp (λx=>ltInt x (swp d a pivot)[a]!) (swp d a pivot) (b-1) (a+1)) (b-1)-1) (swp (swp d a pivot) (scanUp (λx=>ltInt x (swp d a pivot)[a]!) (swp d a pivot) (b-1) (a+1)) (scanDown (λx=>!ltInt x (swp d a pivot)[a]!) (swp d a pivot) (scanUp (λx=>ltInt x (swp d a pivot)[a]!) (swp d a pivot) (b-1) (a+1)) (b-1)))).1 a)):=rfl
 have w1:=yke (show a<d.size by omega);have w2:=yke (show pivot<d.size by omega);have u1:a<(ia d).length:=by rw [ykd];omega
 have u2:pivot<(ia d).length:=by rw [ykd];omega
 have w3:=yko (d:=d) (i:=a) (show pivot<d.size by omega);have u3:=ykp (d:=d) (i:=a) (r:=spl [vi d[a]!] 0 [vi d[pivot]!]) (show pivot<d.size by omega);have hs0:=yk2 d a pivot;have hxs:(swp d a pivot).size=d.size:=ykf _ _ _;generalize swp d a pivot=X at hs0 hxs hP;have e0:vi ((a:Int)+1)=vi ((a+1:Nat):Int):=od
 have e1:vi ((b:Int)-1)=vi ((b-1:Nat):Int):=by congr 2;omega
 have hj:b-1<d.size:=oc
 have hi1:a<a+1:=oc
 have hi2:a+1<=d.size:=oc
 generalize hje:b-1=j at hP e1 hj;generalize hie:a+1=i at hP e0 hi1 hi2;have va:=yke (show a<X.size by omega);have la:a<(ia X).length:=by rw [ykd];omega
 have g1':=Go.Sort.scanUp_ge (λx=>ltInt x X[a]!) X j i;generalize hu:scanUp (λx=>ltInt x X[a]!) X j i=i2 at g1' hP;have g2':=Go.Sort.scanDown_le (λx=>!ltInt x X[a]!) X i2 j;generalize hv:scanDown (λx=>!ltInt x X[a]!) X i2 j=j2 at g2' hP;(repeat' (first|refine aSK (c:=.block 0 _) (λ_:Unit=>rSt a i2 j X) (λ_=>True) ?_ ?_|refine sy ?_|(refine aZ ?_;intros)|refine ylk ?_|fail))
 ·
  intro _ _;(repeat' (first|refine aSK (c:=.block 2 _) (λ_:Unit=>rSt a i2 j2 X) (λ_=>True) ?_ ?_|refine sy ?_|refine ylk ?_|fail))
  ·
   intro _ _;by_cases hg:i2 > j2
   .have hdg:decide ((j2:Int)<(i2:Int))=true:=by simp;omega
    rw [if_pos hg] at hP;rw [hP] at hQ;have v1:=yke (show j2<X.size by omega);have v2:=yke (show a<X.size by omega);have l1:j2<(ia X).length:=by rw [ykd];omega
    have l2:a<(ia X).length:=by rw [ykd];omega
    have v3:=yko (d:=X) (i:=j2) (show a<X.size by omega);have l3:=ykp (d:=X) (i:=j2) (r:=spl [vi X[j2]!] 0 [vi X[a]!]) (show a<X.size by omega);have hsw:=yk2 X j2 a;rw [hsw] at hQ;(repeat' (first|refine sy ?_|(refine aZ ?_;intros)|refine ylk ?_|fail));exact hQ.g1 (.inr rfl) rfl ⟨rfl,trivial⟩ rfl
   .have hdg:decide ((j2:Int)<(i2:Int))=false:=by simp;omega
    rw [if_neg hg] at hP;have v1:=yke (show i2<X.size by omega);have v2:=yke (show j2<X.size by omega);have l1:i2<(ia X).length:=by rw [ykd];omega
    have l2:j2<(ia X).length:=by rw [ykd];omega
    have v3:=yko (d:=X) (i:=i2) (show j2<X.size by omega);have l3:=ykp (d:=X) (i:=i2) (r:=spl [vi X[i2]!] 0 [vi X[j2]!]) (show j2<X.size by omega);have hsw:=yk2 X i2 j2;have hI:=yl7 a _ (i2+1) (j2-1) (swp X i2 j2) (kac _);rw [ykf] at hI;generalize hR:Go.Sort.partLoop ltInt a (i2+1) (j2-1) (swp X i2 j2)=R at hI hP;have e2:vi ((i2:Int)+1)=vi ((i2+1:Nat):Int):=od
    have e3:vi ((j2:Int)-1)=vi ((j2-1:Nat):Int):=by congr 2;omega
    rw [hP] at hQ;(repeat' (first|refine aSK (c:=.block 4 _) (λ_:Unit=>tSt a R.1 R.2) (λ_=>True) ?_ ?_|refine sy ?_|(refine aZ ?_;intros)|refine ylk ?_|fail))
    ·
     intro _ _;clear v1 v2 v3 va w1 w2 w3 hsw hP l1 l2 l3;have v1:=yke (show R.1<R.2.size by omega);have v2:=yke (show a<R.2.size by omega);have l1:R.1<(ia R.2).length:=by rw [ykd];omega
     have l2:a<(ia R.2).length:=by rw [ykd];omega
     have v3:=yko (d:=R.2) (i:=R.1) (show a<R.2.size by omega);have l3:=ykp (d:=R.2) (i:=R.1) (r:=spl [vi R.2[R.1]!] 0 [vi R.2[a]!]) (show a<R.2.size by omega);have hsw:=yk2 R.2 R.1 a;rw [hsw] at hQ;(repeat' (first|refine sy ?_|(refine aZ ?_;intros)|refine ylk ?_|fail));exact hQ.g1 (.inr rfl) rfl ⟨rfl,trivial⟩ rfl
    ·
     intro P8 h0;have h8:∀s,Sub (cx G).G 168 s (tSt a R.1 R.2)->P8 s:=λs h=>h0 s () trivial h;clear h0;refine aB λP7 _ _ _ _=>?_
     refine z2s (ι:={x:Nat×Nat×Array Int // R=Go.Sort.partLoop ltInt a x.1 x.2.1 x.2.2/\x.2.2.size=d.size/\a<x.1/\x.1<=d.size/\x.2.1<d.size}) (λx=>rSt a x.1.1 x.1.2.1 x.1.2.2) (λx=>x.1.2.1+1-x.1.1) ⟨(i2+1,j2-1,swp X i2 j2),hR.symm,by rw [ykf];exact hxs,by simp only;omega,by simp only;omega,by simp only;omega⟩ ?_ ?_
     .clear w3 u3 v3 l3;simp only;exact si
     .clear hsw v1 v2 v3 l1 l2 l3 va la hI hg g1' g2' hu hv hi1 hi2 hj e0 e1 e2 e3 hP hR;clear w1 w2 w3 u1 u2 u3 hs0 hxs hje hie;rintro⟨⟨i,j,X⟩,hP,hxs,hi1,hi2,hj⟩;simp only at hP hxs hi1 hi2 hj |-;rw [Go.Sort.partLoop_eq] at hP;have va:=yke (show a<X.size by omega);have la:a<(ia X).length:=by rw [ykd];omega
      have g1':=Go.Sort.scanUp_ge (λx=>ltInt x X[a]!) X j i;generalize hu:scanUp (λx=>ltInt x X[a]!) X j i=i2 at g1' hP;have g2':=Go.Sort.scanDown_le (λx=>!ltInt x X[a]!) X i2 j;generalize hv:scanDown (λx=>!ltInt x X[a]!) X i2 j=j2 at g2';(repeat' (first|refine aSK (c:=.block 6 _) (λ_:Unit=>rSt a i2 j X) (λ_=>True) ?_ ?_|refine sy ?_|(refine aZ ?_;intros)|refine ylk ?_|fail))
      .intro _ _;(repeat' (first|refine aSK (c:=.block 8 _) (λ_:Unit=>rSt a i2 j2 X) (λ_=>True) ?_ ?_|refine sy ?_|refine ylk ?_|fail))
       .intro _ _;by_cases hg:i2 > j2
        .have hdg:decide ((j2:Int)<(i2:Int))=true:=by simp;omega
         rw [hv,if_pos hg] at hP;subst hP;(repeat' (first|refine sy ?_|(refine aZ ?_;intros)|refine ylk ?_|refine ap2 ?_));clear h8 va hQ;exact si
        .have hdg:decide ((j2:Int)<(i2:Int))=false:=by simp;omega
         rw [hv,if_neg hg] at hP;have v1:=yke (show i2<X.size by omega);have v2:=yke (show j2<X.size by omega);have l1:i2<(ia X).length:=by rw [ykd];omega
         have l2:j2<(ia X).length:=by rw [ykd];omega
         have v3:=yko (d:=X) (i:=i2) (show j2<X.size by omega);have l3:=ykp (d:=X) (i:=i2) (r:=spl [vi X[i2]!] 0 [vi X[j2]!]) (show j2<X.size by omega);have hsw:=yk2 X i2 j2;have e2:vi ((i2:Int)+1)=vi ((i2+1:Nat):Int):=od
         have e3:vi ((j2:Int)-1)=vi ((j2-1:Nat):Int):=by congr 2;omega
         (repeat' (first|refine sy ?_|(refine aZ ?_;intros)|refine ylk ?_|fail));refine⟨⟨(i2+1,j2-1,swp X i2 j2),hP,by rw [ykf];exact hxs,by simp only;omega,by simp only;omega,by simp only;omega⟩,?_,by first|omega|(simp only;omega)⟩;simp only;clear hP v1 v2 v3 va hQ h8;exact si
       ·
        intro P8 h0;have h8:∀s,Sub (cx G).G 168 s (rSt a i2 j2 X)->P8 s:=λs h=>h0 s () trivial h;clear h0;refine aB λP7 _ _ _ _=>?_;refine z2s (ι:={x:Nat // scanDown (λx=>!ltInt x X[a]!) X i2 j=scanDown (λx=>!ltInt x X[a]!) X i2 x/\x<d.size}) (λx=>rSt a i2 x.1 X) (λx=>x.1) ⟨j,rfl,hj⟩ ?_ ?_
        .exact si
        .rintro⟨m,hZ,hm⟩;simp only at hZ hm |-;rw [hv] at hZ;by_cases hmj:i2<=m
         .obtain⟨m,rfl⟩:∃m',m=m'+1:=⟨m-1,oc⟩;have hdm:decide ((i2:Int)<=((m+1:Nat):Int))=true:=by simp;omega
          have q1:((m+1:Nat):Int)-1=((m:Nat):Int):=oc
          have v1:=yke (show m+1<X.size by omega);have l1:m+1<(ia X).length:=by rw [ykd];omega
          rw [ym0 _ X i2 m] at hZ;by_cases hl:¬X[m+1]! < X[a]!
          .have hdl:(!decide (X[m+1]! < X[a]!))=true:=oa hl
           rw [if_pos ⟨hmj,by simp [ltInt];omega⟩] at hZ;(repeat' (first|refine sy ?_|(refine aZ ?_;intros)|refine ylk ?_|(refine s2 ?_ ?_<;>intro h7<;>try omega)|fail));refine⟨⟨m,hv.trans hZ,oc⟩,?_,by first|omega|(simp only;omega)⟩;simp only;clear hZ h8 v1 va hQ hP;exact si
          .have hdl:(!decide (X[m+1]! < X[a]!))=false:=oa hl
           rw [if_neg oN] at hZ;subst hZ;exact esg0
         .have hdm:decide ((i2:Int)<=(m:Int))=false:=by simp;omega
          have hz:j2=m:=by
           rw [hZ];cases m with
           | zero=>rfl
           | succ m=>rw [ym0,if_neg (λh=>hmj h.1)]
          subst hz;exact esg1
      ·
       intro P8 h0;have h8:∀s,Sub (cx G).G 168 s (rSt a i2 j X)->P8 s:=λs h=>h0 s () trivial h;clear h0;refine aB λP7 _ _ _ _=>?_;refine z2s (ι:={x:Nat // scanUp (λx=>ltInt x X[a]!) X j i=scanUp (λx=>ltInt x X[a]!) X j x/\a<x/\x<=d.size}) (λx=>rSt a x.1 j X) (λx=>j+1-x.1) ⟨i,rfl,hi1,hi2⟩ ?_ ?_
       .exact si
       .rintro⟨m,hZ,hm1,hm2⟩;simp only at hZ hm1 hm2 |-;rw [hu,ym8 _ X j m] at hZ;have em:vi ((m:Int)+1)=vi ((m+1:Nat):Int):=od
        by_cases hmj:m<=j
        .have hdm:decide ((m:Int)<=(j:Int))=true:=by simp;omega
         have v1:=yke (show m<X.size by omega);have l1:m<(ia X).length:=by rw [ykd];omega
         by_cases hl:¬X[m]! < X[a]!
         .have hdl:decide (X[m]! < X[a]!)=false:=oa hl
          rw [if_neg oN] at hZ;subst hZ;exact esg0
         .have hdl:decide (X[m]! < X[a]!)=true:=oa hl
          rw [if_pos ⟨hmj,by simp [ltInt];omega⟩] at hZ;(repeat' (first|refine sy ?_|(refine aZ ?_;intros)|refine ylk ?_|fail));refine⟨⟨m+1,hu.trans hZ,oc,oc⟩,?_,by first|omega|(simp only;omega)⟩;simp only;clear hZ h8 v1 va hQ hP;exact si
        .have hdm:decide ((m:Int)<=(j:Int))=false:=by simp;omega
         rw [if_neg (λh=>hmj h.1)] at hZ;subst hZ;exact esg2
  ·
   intro P8 h0;have h8:∀s,Sub (cx G).G 168 s (rSt a i2 j2 X)->P8 s:=λs h=>h0 s () trivial h;clear h0;refine aB λP7 _ _ _ _=>?_;refine z2s (ι:={x:Nat // scanDown (λx=>!ltInt x X[a]!) X i2 j=scanDown (λx=>!ltInt x X[a]!) X i2 x/\x<d.size}) (λx=>rSt a i2 x.1 X) (λx=>x.1) ⟨j,rfl,hj⟩ ?_ ?_
   .exact si
   .rintro⟨m,hZ,hm⟩;simp only at hZ hm |-;rw [hv] at hZ;by_cases hmj:i2<=m
    .obtain⟨m,rfl⟩:∃m',m=m'+1:=⟨m-1,oc⟩;have hdm:decide ((i2:Int)<=((m+1:Nat):Int))=true:=by simp;omega
     have q1:((m+1:Nat):Int)-1=((m:Nat):Int):=oc
     have v1:=yke (show m+1<X.size by omega);have l1:m+1<(ia X).length:=by rw [ykd];omega
     rw [ym0 _ X i2 m] at hZ;by_cases hl:¬X[m+1]! < X[a]!
     .have hdl:(!decide (X[m+1]! < X[a]!))=true:=oa hl
      rw [if_pos ⟨hmj,by simp [ltInt];omega⟩] at hZ;(repeat' (first|refine sy ?_|(refine aZ ?_;intros)|refine ylk ?_|(refine s2 ?_ ?_<;>intro h7<;>try omega)|fail));refine⟨⟨m,hv.trans hZ,oc⟩,?_,by first|omega|(simp only;omega)⟩;simp only;clear hZ h8 v1 va hQ hP;exact si
     .have hdl:(!decide (X[m+1]! < X[a]!))=false:=oa hl
      rw [if_neg oN] at hZ;subst hZ;exact esg0
    .have hdm:decide ((i2:Int)<=(m:Int))=false:=by simp;omega
     have hz:j2=m:=by
      rw [hZ];cases m with
      | zero=>rfl
      | succ m=>rw [ym0,if_neg (λh=>hmj h.1)]
     subst hz;exact esg1
 ·
  intro P8 h0;have h8:∀s,Sub (cx G).G 168 s (rSt a i2 j X)->P8 s:=λs h=>h0 s () trivial h;clear h0;refine aB λP7 _ _ _ _=>?_;refine z2s (ι:={x:Nat // scanUp (λx=>ltInt x X[a]!) X j i=scanUp (λx=>ltInt x X[a]!) X j x/\a<x/\x<=d.size}) (λx=>rSt a x.1 j X) (λx=>j+1-x.1) ⟨i,rfl,hi1,hi2⟩ ?_ ?_
  .exact si
  .rintro⟨m,hZ,hm1,hm2⟩;simp only at hZ hm1 hm2 |-;rw [hu,ym8 _ X j m] at hZ;have em:vi ((m:Int)+1)=vi ((m+1:Nat):Int):=od
   by_cases hmj:m<=j
   .have hdm:decide ((m:Int)<=(j:Int))=true:=by simp;omega
    have v1:=yke (show m<X.size by omega);have l1:m<(ia X).length:=by rw [ykd];omega
    by_cases hl:¬X[m]! < X[a]!
    .have hdl:decide (X[m]! < X[a]!)=false:=oa hl
     rw [if_neg oN] at hZ;subst hZ;exact esg0
    .have hdl:decide (X[m]! < X[a]!)=true:=oa hl
     rw [if_pos ⟨hmj,by simp [ltInt];omega⟩] at hZ;(repeat' (first|refine sy ?_|(refine aZ ?_;intros)|refine ylk ?_|fail));refine⟨⟨m+1,hu.trans hZ,oc,oc⟩,?_,by first|omega|(simp only;omega)⟩;simp only;clear hZ h8 v1 va hQ hP;exact si
   .have hdm:decide ((m:Int)<=(j:Int))=false:=by simp;omega
    rw [if_neg (λh=>hmj h.1)] at hZ;subst hZ;exact esg2
end
end Go.Ab.J
