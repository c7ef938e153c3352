/- What all laws about sales rest on, beside any goroutines. Conditions: none. -/
import Derived.Test.YtfgciihkmemdlaaGreatDoorZC
import Derived.Test.YtfgciihkmemdlaaGreatDoorZE
import Derived.Sort.AssemblyPlain
namespace Go.Ab.J
open Go Go.Proofs Go.Kp
open Go.Sort (swp ltInt PermIn SortedIn Below swo_ltInt)
section
variable{G:zbf}
theorem kAt{C:Cx}{r:Option Nat}{N:Nat}{s:AS}{l:Array Oper}{dr:Bool}{c e:Code}{Q:Exit->AS->Prop}(id:Nat)(h:AW C r N (.seq (.seq (.region id l dr) c) e) Q s):AW C r N (.seq (.seq (.region id l dr) c) e) Q s:=h
def srt(d:Array Int)(a b:Nat):Array Int:=Go.Sort.heapSort ltInt d a b
theorem ylr{d:Array Int}{a b:Nat}(h:a<=b)(hb:b<=d.size):PermIn a b d (srt d a b)/\SortedIn ltInt a b (srt d a b):=Go.Sort.heapSort_holds swo_ltInt d a b h hb
theorem yl4{d:Array Int}{a b:Nat}(hb:b<=d.size)(h:SortedIn ltInt a b d):(d.extract a b).toList.Pairwise (·<=·):=by rw [Go.Sort.extract_toList d a b hb,kea];intro i j hi hj hij;simp only [ka6,List.length_range'] at hi hj;have:=h (a+i) (a+j) oc oc oc;simp only [ltInt,decide_eq_false_iff_not] at this;simp only [List.getElem_map,List.getElem_range',Nat.one_mul];omega
theorem ymk{d R:Array Int}{a b:Nat}(h:a<=b)(hb:b<=d.size)(hp:PermIn a b d R)(hs:SortedIn ltInt a b R):R=srt d a b:=by
 obtain⟨p2,s2⟩:=ylr h hb;generalize srt d a b=S at p2 s2 |-;have hl:(R.extract a b).toList=(S.extract a b).toList:=by refine List.Perm.eq_of_pairwise (le:=(·<=·)) (λx y _ _ h1 h2=>Int.le_antisymm h1 h2) (yl4 (by rw [hp.1];exact hb) hs) (yl4 (by rw [p2.1];exact hb) s2) (hp.2.2.trans p2.2.2.symm)
 rw [Go.Sort.extract_toList _ _ _ (by rw [hp.1];exact hb),Go.Sort.extract_toList _ _ _ (by rw [p2.1];exact hb)] at hl;have hin:∀i,a<=i->i<b->R[i]! = S[i]!:=λi h1 h2=>by have:=congrArg (λl=>l[i-a]?) hl;simp only [kaq] at this;rw [kaa (by rw [List.length_range'];omega)] at this;simp only [List.getElem_range',kcc,kap,Nat.one_mul] at this;rwa [show a+(i-a)=i by omega] at this
 refine Array.ext (by rw [hp.1,p2.1]) λi h1 h2=>?_;have e:R[i]! = S[i]!:=by
  by_cases h3:a<=i/\i<b
  .exact hin i h3.1 h3.2
  .rw [hp.2.1 i oc,p2.2.1 i oc]
 simpa [h1,h2] using e
def ym5(d0:Array Int)(a0 b0 a b:Nat)(X:Array Int):Prop:=∀R,PermIn a b X R->SortedIn ltInt a b R->R=srt d0 a0 b0
theorem ym5.perm{d0:Array Int}{a0 b0 a b:Nat}{X Y:Array Int}(h:ym5 d0 a0 b0 a b X)(hp:PermIn a b X Y):ym5 d0 a0 b0 a b Y:=λR h1 h2=>h R (Go.Sort.permIn_trans _ _ _ _ _ hp h1) h2
theorem yk6{a b:Nat}{X Y:Array Int}(h:Below ltInt a b X)(hb:b<=X.size)(hp:PermIn a b X Y):Below ltInt a b Y:=h.perm hb hp
attribute [local irreducible] AOp AW ADr AFn ze1 AFt AOpJ
set_option maxRecDepth 20000
set_option maxHeartbeats 16000000
abbrev vSt(a b lim:Nat)(wb wp:Bool)(X:Array Int):AS:=[(2*0,.av (.own 1000)),(2*1,.av (vi a)),(2*2,.av (vi b)),(2*3,.av (vi lim)),(2*8,.av (vb wb)),(2*9,.av (vb wp)),(2*1000+1,.buf 1 3 (ia X))]
abbrev s7(a b:Nat)(wb wp:Bool)(i:Nat×Array Int):AS:=(2*10,.av (vi ((b:Int)-(a:Int))))::vSt a b i.1 wb wp i.2
abbrev t7(a b:Nat)(X:Array Int)(i:Nat×Array Int):Prop:=i.1<=100000/\PermIn a b X i.2
abbrev s11(a b lim:Nat)(wb wp:Bool)(i:Nat×Int×Array Int):AS:=(2*10,.av (vi ((b:Int)-(a:Int))))::(2*11,.av (vi i.1))::(2*12,.av (vi i.2.1))::vSt a b lim wb wp i.2.2
abbrev t11(a b:Nat)(X:Array Int)(i:Nat×Int×Array Int):Prop:=a<=i.1/\i.1<b/\PermIn a b X i.2.2
abbrev s15(a b:Nat)(p:Int)(lim:Nat)(wb wp:Bool)(Y:Array Int):AS:=(2*10,.av (vi ((b:Int)-(a:Int))))::(2*11,.av (vi p))::vSt a b lim wb wp Y
theorem ylj{P G:Prop}(n:P)(h:Wr P->G:=by(intro n;first|((with_reducible apply kC);first|exact gB ⟨_,z70 _ _,.mk rfl n.p⟩|exact gK n.p|exact gS n.p)|exact⟨_,z70 _ _,n.p⟩|exact sk n.p|exact ap n.p)):G:=h ⟨n⟩
theorem esp0{G:Prop}(h:G:=by((repeat' (first|refine sy ?_|(refine aZ ?_;intros)|refine ylj ?_|fail));refine h8 X _ (Go.Sort.permIn_refl _ _ _) ?_;clear h8;exact si)):G:=h
theorem ytb{P G:Prop}(n:P)(h:Wr P->G:=by(intro nq9;first|((with_reducible apply kC);first|exact gM (p:=[]) (ys:=[_,_,_]) (q:=[]) m1 nq9.p|exact gM (p:=[]) (ys:=[_,_,_]) (q:=[]) m2 nq9.p|exact gM (p:=[]) (ys:=[_,_,_]) (q:=[]) m3 nq9.p|exact gM (p:=[]) (ys:=[_,_,_]) (q:=[]) m4 nq9.p|exact gM (p:=[]) (ys:=[_,_,_]) (q:=[]) m5 nq9.p|exact gM (p:=[]) (ys:=[_,_,_]) (q:=[]) m6 nq9.p|exact gM (p:=[]) (ys:=[_,_,_,_]) (q:=[]) m7 nq9.p|exact gM (p:=[]) (ys:=[_,_,_,_]) (q:=[]) m8 nq9.p|exact gM (p:=[]) (ys:=[_,_,_,_]) (q:=[]) m9 nq9.p))):G:=h ⟨n⟩
theorem pdq_w(d0:Array Int)(a0 b0 limit:Nat)(hab0:a0<=b0)(hb0:b0<=d0.size)(hs:d0.size<65536)(hl0:limit<=100000)(hB0:Below ltInt a0 b0 d0)
  (ih:∀(d:Array Int) (a b limit:Nat),b-a<b0-a0->a<=b->b<=d.size->d.size<65536->limit<=100000->Below ltInt a b d->zu1 (cx G) 147 [.own 1000,vi a,vi b,vi limit] [(1000,.buf 1 3 (ia d))] (.tup []) [(1000,.buf 1 3 (ia (srt d a b)))] []) :
  zu1 (cx G) 147 [.own 1000,vi a0,vi b0,vi limit] [(1000,.buf 1 3 (ia d0))] (.tup []) [(1000,.buf 1 3 (ia (srt d0 a0 b0)))] []:=by
 refine zeu [(1000,0)] Tryz.func147 rfl Tryz.ntmps147 rfl rfl rfl λQ hQ=>?_
 (repeat' (first|refine sy ?_|(refine aZ ?_;intros)|refine ylj ?_|fail))
 refine z2s (ι:={x:(Nat×Nat×Nat)×(Bool×Bool)×Array Int // x.1.1<=x.1.2.1/\x.1.2.1<=d0.size/\x.2.2.size=d0.size/\x.1.2.2<=100000/\x.1.2.1-x.1.1<=b0-a0/\Below ltInt x.1.1 x.1.2.1 x.2.2/\ym5 d0 a0 b0 x.1.1 x.1.2.1 x.2.2}) (λx=>vSt x.1.1.1 x.1.1.2.1 x.1.1.2.2 x.1.2.1.1 x.1.2.1.2 x.1.2.2) (λx=>x.1.1.2.1-x.1.1.1) ⟨((a0,b0,limit),(true,true),d0),hab0,hb0,rfl,hl0,kac _,hB0,λR h1 h2=>ymk hab0 hb0 h1 h2⟩ ?_ ?_
 .exact si
 .rintro⟨⟨⟨a,b,lim⟩,⟨wb,wp⟩,X⟩,hab,hb,hX,hl,hle,hB,hW⟩;simp only at hab hb hX hl hle hB hW |-;by_cases h12:b-a<=12
  .have hd:decide ((b:Int)-(a:Int)<=12)=true:=by simp;omega
   have m1:=yni (G:=G) X a b oc oc oc;have hI:=Go.Sort.insertionSort_holds swo_ltInt X a b hab oc;rw [hW _ hI.1 hI.2] at m1;(repeat' (first|refine ytb ?_|refine sy ?_|(refine aZ ?_;intros)|refine ylj ?_|fail));exact hQ.g1 (.inr rfl) rfl ⟨rfl,trivial⟩ rfl
  have hd:decide ((b:Int)-(a:Int)<=12)=false:=by simp;omega
  by_cases hl0:lim=0
  .have hdl:decide ((lim:Int)=0)=true:=oa hl0
   have m2:=ymz (G:=G) X a b oc oc oc;have hI:=Go.Sort.heapSort_holds swo_ltInt X a b hab oc;rw [hW _ hI.1 hI.2] at m2;(repeat' (first|refine ytb ?_|refine sy ?_|(refine aZ ?_;intros)|refine ylj ?_|fail));exact hQ.g1 (.inr rfl) rfl ⟨rfl,trivial⟩ rfl
  have hdl:decide ((lim:Int)=0)=false:=oa hl0
  have m3:=yor (G:=G) X a b oc oc oc;have hbk:PermIn a b X (brk X a b):=yms oc oc 3 oc;generalize brk X a b=B at m3 hbk;(repeat' (first|((with_reducible apply kAt 7);refine aSK (s7 a b wb wp) (t7 a b X) ?_ ?_)|refine sy ?_|(refine aZ ?_;intros)|refine ylj ?_|fail))
  .clear hdl hl0 m3 hbk hl B;rintro⟨lim,Y⟩ ⟨hl,hp1⟩;simp only at hl hp1 |-;have hY:Y.size=d0.size:=hp1.1.trans hX;have hB1:=yk6 hB oc hp1;have hW1:=hW.perm hp1;clear hB hW hp1 hX X;obtain⟨X,rfl⟩:∃X,X=Y:=⟨Y,rfl⟩;have m4:=yn8 (G:=G) X a b oc oc oc;have hch:=Go.Sort.choosePivot_holds ltInt X a b oc;generalize hC:Go.Sort.choosePivot ltInt X a b=C at m4 hch
   have m5:=yna (G:=G) X a b oc oc oc;have hrv:=Go.Sort.reverseRange_holds X a b hab oc;generalize Go.Sort.reverseRange X a b=V at m5 hrv;(repeat' (first|((with_reducible apply kAt 11);refine aSK (s11 a b lim wb wp) (t11 a b X) ?_ ?_)|refine ytb ?_|refine sy ?_|(refine aZ ?_;intros)|refine ylj ?_|fail))
   .clear m4 hch hC C m5 hrv V;rintro⟨p,hint,Y⟩ ⟨hpa,hpb,hp1⟩;simp only at hpa hpb hp1 |-;have hYs:Y.size=d0.size:=hp1.1.trans hY;have hB2:=yk6 hB1 oc hp1;have hW2:=hW1.perm hp1;clear hB1 hW1 hp1 hY X;obtain⟨X,rfl⟩:∃X,X=Y:=⟨Y,rfl⟩;have m6:=yl6 (G:=G) X a b oc oc oc;have hpi:=Go.Sort.partialInsertionSort_holds (lt:=ltInt) swo_ltInt X a b oc oc hB2
    generalize Go.Sort.partialInsertionSort ltInt X a b=I at m6 hpi;(repeat' (first|((with_reducible apply kAt 15);refine aSK (s15 a b p lim wb wp) (PermIn a b X) ?_ ?_)|refine sy ?_|refine ylj ?_|fail))
    ·
     clear m6 hpi I;intro Y hp1;have hY:Y.size=d0.size:=hp1.1.trans hYs;have hB3:=yk6 hB2 oc hp1;have hW3:=hW2.perm hp1;clear hB2 hW2 hp1 hYs X;obtain⟨X,rfl⟩:∃X,X=Y:=⟨Y,rfl⟩;(repeat' (first|((with_reducible apply kAt 17);refine aSK (λ_:Unit=>s15 a b p lim wb wp X) (λ_=>True) ?_ ?_)|refine sy ?_|refine ylj ?_|fail))
     ·
      intro _ _;have m8:=yoy (G:=G) X a b p oc oc oc oc;have hrp:=λmid fl d4=>Go.Sort.round_part (lt:=ltInt) (d4:=d4) (mid:=mid) (ap:=fl) swo_ltInt (Go.Sort.partition_holds ltInt) hpa hpb oc hB3;generalize Go.Sort.partition ltInt X a b p=M at m8 hrp;obtain⟨mid,fl,D⟩:=M;obtain⟨g1',g2',g3',g4',g5',g6',g7'⟩:=hrp mid fl D rfl;clear hrp;simp only at m8
      have hd4:mid-a<b0-a0:=oc
      have hd5:b-(mid+1)<b0-a0:=oc
      by_cases hlr:mid-a<b-mid
      .have hdr:decide ((mid:Int)-(a:Int)<(b:Int)-(mid:Int))=true:=by simp;omega
       have m9:=ih D a mid lim hd4 g1' oc oc hl g4';obtain⟨s1,s2⟩:=ylr (d:=D) g1' oc;generalize srt D a mid=L at m9 s1 s2;obtain⟨t1,t2⟩:=g6' L s1 s2;have em:vi ((mid:Int)+1)=vi ((mid+1:Nat):Int):=od
       have K1:mid+1<=b:=oc
       have K2:L.size=d0.size:=by rw [s1.1];omega
       have K3:b-(mid+1)<=b0-a0:=oc
       have K4:ym5 d0 a0 b0 (mid+1) b L:=λR h1 h2=>hW3 R (t2 R h1 h2).1 (t2 R h1 h2).2;clear g4' g5' g6' g7' s1 s2 t2 hB3 hW3;(repeat' (first|refine ytb ?_|refine sy ?_|(refine aZ ?_;intros)|refine ylj ?_|fail));refine⟨⟨((mid+1,b,lim),(decide (((b:Int)-(a:Int)) / 8<=(mid:Int)-(a:Int)),fl),L),K1,hb,K2,hl,K3,t1,K4⟩,?_,by first|omega|(simp only;omega)⟩;simp only;exact si
      .have hdr:decide ((mid:Int)-(a:Int)<(b:Int)-(mid:Int))=false:=by simp;omega
       have m9:=ih D (mid+1) b lim hd5 oc oc oc hl g5';obtain⟨s1,s2⟩:=ylr (d:=D) (a:=mid+1) (b:=b) oc oc;generalize srt D (mid+1) b=L at m9 s1 s2;obtain⟨t1,t2⟩:=g7' L s1 s2;have K1:mid<=d0.size:=oc
       have K2:L.size=d0.size:=by rw [s1.1];omega
       have K3:mid-a<=b0-a0:=oc
       have K4:ym5 d0 a0 b0 a mid L:=λR h1 h2=>hW3 R (t2 R h1 h2).1 (t2 R h1 h2).2;clear g4' g5' g6' g7' s1 s2 t2 hB3 hW3;(repeat' (first|refine ytb ?_|refine sy ?_|(refine aZ ?_;intros)|refine ylj ?_|fail));refine⟨⟨((a,mid,lim),(decide (((b:Int)-(a:Int)) / 8<=(b:Int)-(mid:Int)),fl),L),g1',K1,K2,hl,K3,t1,K4⟩,?_,by first|omega|(simp only;omega)⟩;simp only;exact si
     ·
      intro P8 h0;have h8:∀s,Sub (cx G).G 134 s ((2*10,.av (vi ((b:Int)-(a:Int))))::(2*11,.av (vi p))::vSt a b lim wb wp X)->P8 s:=λs h=>h0 s () trivial h;clear h0;by_cases ha0:0<a
      .have hda:decide ((0:Int)<(a:Int))=true:=by simp;omega
       have q1:(a:Int)-1=((a-1:Nat):Int):=oc
       have v1:=yke (show a-1<X.size by omega);have v2:=yke (show p<X.size by omega);have l1:a-1<(ia X).length:=by rw [ykd];omega
       have l2:p<(ia X).length:=by rw [ykd];omega
       by_cases hlt:X[a-1]! < X[p]!
       .have hdt:(!decide (X[a-1]! < X[p]!))=false:=oa hlt
        (repeat' (first|refine sy ?_|(refine aZ ?_;intros)|refine ylj ?_|(refine s2 ?_ ?_<;>intro h7<;>try omega)|fail));clear v1 v2 h8;exact si
       .have hdt:(!decide (X[a-1]! < X[p]!))=true:=oa hlt
        have m7:=yn1 (G:=G) X a b p oc oc oc oc;have hre:=λmid d4=>Go.Sort.round_eq (lt:=ltInt) (d4:=d4) (mid:=mid) swo_ltInt (Go.Sort.partitionEqual_holds ltInt) ha0 hpa hpb oc hB3 (by simpa [ltInt] using hlt);generalize Go.Sort.partitionEqual ltInt X a b p=M at m7 hre;obtain⟨mid,D⟩:=M;obtain⟨g1',g2',g3',g4',g5'⟩:=hre mid D rfl;clear hre;simp only at m7
        (repeat' (first|refine ytb ?_|refine sy ?_|(refine aZ ?_;intros)|refine ylj ?_|(refine s2 ?_ ?_<;>intro h7<;>try omega)|fail));refine⟨⟨((mid,b,lim),(wb,wp),D),g2',hb,by simp only;omega,hl,by simp only;omega,g4',λR h1 h2=>hW3 R (g5' R h1 h2).1 (g5' R h1 h2).2⟩,?_,by first|omega|(simp only;omega)⟩;simp only;clear v1 v2 h8;exact si
      .have hda:decide ((0:Int)<(a:Int))=false:=by simp;omega
       (repeat' (first|refine sy ?_|(refine aZ ?_;intros)|refine ylj ?_|fail));clear h8;exact si
    ·
     intro P8 h0;have h8:∀(Y:Array Int) s,PermIn a b X Y->Sub (cx G).G 134 s ((2*10,.av (vi ((b:Int)-(a:Int))))::(2*11,.av (vi p))::vSt a b lim wb wp Y)->P8 s:=λi s h1 h2=>h0 s i h1 h2;clear h0;cases wb
     .exact esp0
     .cases wp
      .exact esp0
      .by_cases hh:hint=1
       .have hdh:decide (hint=1)=true:=oa hh
        obtain⟨I1,I2⟩:=I;simp only at m6 hpi;cases I2
        ·(repeat' (first|refine ytb ?_|refine sy ?_|(refine aZ ?_;intros)|refine ylj ?_|fail));refine h8 I1 _ hpi.1 ?_;clear h8;exact si
        .rw [hW2 I1 hpi.1 (hpi.2 rfl)] at m6;(repeat' (first|refine ytb ?_|refine sy ?_|(refine aZ ?_;intros)|refine ylj ?_|fail));exact hQ.g1 (.inr rfl) rfl ⟨rfl,trivial⟩ rfl
       .have hdh:decide (hint=1)=false:=oa hh
        exact esp0
   ·
    intro P8 h0;have h8:∀(i:Nat×Int×Array Int) s,a<=i.1/\i.1<b/\PermIn a b X i.2.2->Sub (cx G).G 134 s ((2*10,.av (vi ((b:Int)-(a:Int))))::(2*11,.av (vi i.1))::(2*12,.av (vi i.2.1))::vSt a b lim wb wp i.2.2)->P8 s:=λi s h1 h2=>h0 s i h1 h2;clear h0;obtain⟨p,H⟩:=C;simp only at m4 hch;generalize yo1 H=hint at m4;by_cases hh:hint=2
    .have hdh:decide (hint=2)=true:=oa hh
     have ep:vi ((b:Int)-1-((p:Int)-(a:Int)))=vi ((b-1-(p-a):Nat):Int):=by congr 2;omega
     (repeat' (first|refine ytb ?_|refine sy ?_|(refine aZ ?_;intros)|refine ylj ?_|fail));refine h8 (b-1-(p-a),1,V) _ ⟨by simp only;omega,by simp only;omega,hrv⟩ ?_;clear h8;simp only;exact si
    .have hdh:decide (hint=2)=false:=oa hh
     (repeat' (first|refine sy ?_|(refine aZ ?_;intros)|refine ylj ?_|fail));refine h8 (p,hint,X) _ ⟨hch.1,hch.2,Go.Sort.permIn_refl _ _ _⟩ ?_;clear h8;simp only;exact si
  .intro P8 h0;have h8:∀(i:Nat×Array Int) s,i.1<=100000/\PermIn a b X i.2->Sub (cx G).G 134 s ((2*10,.av (vi ((b:Int)-(a:Int))))::vSt a b i.1 wb wp i.2)->P8 s:=λi s h1 h2=>h0 s i h1 h2;clear h0;cases wb
   .have e3:vi ((lim:Int)-1)=vi ((lim-1:Nat):Int):=by congr 2;omega
    (repeat' (first|refine ytb ?_|refine sy ?_|(refine aZ ?_;intros)|refine ylj ?_|fail));refine h8 (lim-1,B) _ ⟨by simp only;omega,hbk⟩ ?_;simp only;exact si
   ·(repeat' (first|refine sy ?_|(refine aZ ?_;intros)|refine ylj ?_|fail));refine h8 (lim,X) _ ⟨hl,Go.Sort.permIn_refl _ _ _⟩ ?_;simp only;exact si
end
end Go.Ab.J
