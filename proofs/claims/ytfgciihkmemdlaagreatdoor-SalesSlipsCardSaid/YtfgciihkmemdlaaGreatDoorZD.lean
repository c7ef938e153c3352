/- What all laws about sales rest on, beside any goroutines. Conditions: none. -/
import Derived.Test.YtfgciihkmemdlaaGreatDoorZA
import Derived.Sort.LotD4
namespace Go.Ab.J
open Go Go.Proofs Go.Kp
open Go.Sort (swp ltInt)
section
variable{G:zbf}
attribute [local irreducible] AOp AW ADr AFn ze1 AFt AOpJ
set_option maxRecDepth 20000
set_option maxHeartbeats 16000000
theorem yna(d:Array Int)(a b:Nat)(hab:a<b)(hb:b<=d.size)(hs:d.size<=100000):zu1 (cx G) 176 [.own 1000,vi a,vi b] [(1000,.buf 1 3 (ia d))] (.tup []) [(1000,.buf 1 3 (ia (Go.Sort.reverseRange d a b)))] []:=by
 refine zeu [(1000,0)] Tryz.func176 rfl Tryz.ntmps176 rfl rfl rfl λQ hQ=>?_;have e1:(b:Int)-1=((b-1:Nat):Int):=oc
 (repeat' (first|refine sy ?_|(refine aZ ?_;intros)|refine w0 ?_|fail))
 refine z2s (ι:={x:Nat×Nat×Array Int // Go.Sort.reverseRange d a b=Go.Sort.reverseLoop x.1 x.2.1 x.2.2/\x.2.2.size=d.size/\x.2.1<d.size/\x.1<=d.size}) (λx=>[(2*0,.av (.own 1000)),(2*6,.av (vi x.1.1)),(2*7,.av (vi x.1.2.1)),(2*1000+1,.buf 1 3 (ia x.1.2.2))]) (λx=>x.1.2.1-x.1.1) ⟨(a,b-1,d),rfl,rfl,by simp only;omega,by simp only;omega⟩ ?_ ?_
 .exact si
 .rintro⟨⟨i,j,X⟩,hP,hxs,hj,hi⟩;simp only at hP hxs hj hi |-;rw [Go.Sort.reverseLoop] at hP;by_cases h:i<j
  .have hd:decide ((i:Int)<(j:Int))=true:=by simp;omega
   rw [if_pos h] at hP;have v1:=yke (show i<X.size by omega);have v2:=yke (show j<X.size by omega);have l1:i<(ia X).length:=by rw [ykd];omega
   have l2:j<(ia X).length:=by rw [ykd];omega
   have v3:=yko (d:=X) (i:=i) (show j<X.size by omega);have l3:=ykp (d:=X) (i:=i) (r:=spl [vi X[i]!] 0 [vi X[j]!]) (show j<X.size by omega);have hsw:=yk2 X i j;have e2:vi ((i:Int)+1)=vi ((i+1:Nat):Int):=od
   have e3:vi ((j:Int)-1)=vi ((j-1:Nat):Int):=by congr 2;omega
   (repeat' (first|refine sy ?_|(refine aZ ?_;intros)|refine w0 ?_|fail));refine⟨⟨(i+1,j-1,swp X i j),hP,by rw [ykf];exact hxs,by simp only;omega,by simp only;omega⟩,?_,by first|omega|(simp only;omega)⟩;simp only;clear hP v1 v2 v3 hQ;exact si
  .have hd:decide ((i:Int)<(j:Int))=false:=by simp;omega
   rw [if_neg h] at hP;rw [hP] at hQ;(repeat' (first|refine sy ?_|(refine aZ ?_;intros)|refine w0 ?_|fail));exact hQ.g1 (.inl rfl) rfl ⟨rfl,trivial⟩ rfl
abbrev swM(d:Array Int)(n:Int):List (Nat×za7):=[(1000,.buf 1 3 (ia d)),(9,.cells 3 [vi n])]
theorem csc0{P G:Prop}(n:P)(h:Wr P->G:=by(intro n;first|((with_reducible apply kC);first|exact gB ⟨_,z70 _ _,.mk rfl n.p⟩|exact gK n.p|exact gS n.p)|exact⟨_,z70 _ _,n.p⟩|exact sk n.p|exact ap n.p)):G:=h ⟨n⟩
theorem ylt(d:Array Int)(a b s:Nat)(ha:a<d.size)(hb:b<d.size)(hs:s<=100000):zu1 (cx G) 197 [.own 1000,vi a,vi b,.ptr 9 0] (swM d s) (.tup [vi (Go.Sort.order2 ltInt d a b s).1,vi (Go.Sort.order2 ltInt d a b s).2.1]) (swM d (Go.Sort.order2 ltInt d a b s).2.2) []:=by
 refine zeu [(1000,0),(9,3)] Tryz.func197 rfl Tryz.ntmps197 rfl rfl rfl λQ hQ=>?_;have v1:=yke ha;have v2:=yke hb;have l1:a<(ia d).length:=by rw [ykd];exact ha
 have l2:b<(ia d).length:=by rw [ykd];exact hb
 by_cases h:d[b]! < d[a]!
 .have hd:decide (d[b]! < d[a]!)=true:=oa h
  have hO:Go.Sort.order2 ltInt d a b s=(b,a,s+1):=by rw [Go.Sort.order2,if_pos (by simpa [ltInt] using h)]
  have e1:vi ((s:Int)+1)=vi ((s+1:Nat):Int):=od
  simp only [hO] at hQ;(repeat' (first|refine sy ?_|(refine aZ ?_;intros)|refine csc0 ?_|fail));exact hQ.go _ _ _ zcz (.inr rfl) rfl ⟨rfl,rfl,trivial⟩ (λp hp=>by cases hp with|head=>rfl|tail _ h=>cases h with|head=>rfl|tail _ h=>cases h)
 .have hd:decide (d[b]! < d[a]!)=false:=oa h
  have hO:Go.Sort.order2 ltInt d a b s=(a,b,s):=by rw [Go.Sort.order2,if_neg (by simpa [ltInt] using h)]
  rw [hO] at hQ;(repeat' (first|refine sy ?_|(refine aZ ?_;intros)|refine csc0 ?_|fail));exact hQ.go _ _ _ zcz (.inr rfl) rfl ⟨rfl,rfl,trivial⟩ (λp hp=>by cases hp with|head=>rfl|tail _ h=>cases h with|head=>rfl|tail _ h=>cases h)
theorem ync{d:Array Int}{a b s n:Nat}(ha:a<n)(hb:b<n):(Go.Sort.order2 ltInt d a b s).1<n/\(Go.Sort.order2 ltInt d a b s).2.1<n:=by rcases Go.Sort.order2_mem ltInt d a b s with h|h<;>omega
theorem ylv(d:Array Int)(a b c s:Nat)(x y z:Int)(hx:x=a)(hy:y=b)(hz:z=c)(ha:a<d.size)(hb:b<d.size)(hc:c<d.size)(hs:s<=1000):zu1 (cx G) 196 [.own 1000,vi x,vi y,vi z,.ptr 9 0] (swM d s) (vi (Go.Sort.median ltInt d a b c s).1) (swM d (Go.Sort.median ltInt d a b c s).2) []:=by
 subst hx;subst hy;subst hz;refine zeu [(1000,0),(9,4)] Tryz.func196 rfl Tryz.ntmps196 rfl rfl rfl λQ hQ=>?_;unfold Go.Sort.median at hQ;simp only at hQ;obtain⟨o1,o2⟩:=ync (d:=d) (s:=s) ha hb;have c1:=Go.Sort.order2_count (lt:=ltInt) d a b s;generalize hr1:Go.Sort.order2 ltInt d a b s=r1 at *;obtain⟨o3,o4⟩:=ync (d:=d) (s:=r1.2.2) o2 hc;have c2:=Go.Sort.order2_count (lt:=ltInt) d r1.2.1 c r1.2.2
 generalize hr2:Go.Sort.order2 ltInt d r1.2.1 c r1.2.2=r2 at *;obtain⟨o5,o6⟩:=ync (d:=d) (s:=r2.2.2) o1 o3;have m1:=ylt (G:=G) d a b s ha hb oc;rw [hr1] at m1;have m2:=ylt (G:=G) d r1.2.1 c r1.2.2 o2 hc oc;rw [hr2] at m2;have m3:=ylt (G:=G) d r1.1 r2.1 r2.2.2 o1 o3 oc;generalize hr3:Go.Sort.order2 ltInt d r1.1 r2.1 r2.2.2=r3 at *
 (repeat' (first|((with_reducible apply kC);first|refine gM (p:=[]) (ys:=[_,_,_,_]) (q:=[]) m1 ?_|refine gM (p:=[]) (ys:=[_,_,_,_]) (q:=[]) m2 ?_|refine gM (p:=[]) (ys:=[_,_,_,_]) (q:=[]) m3 ?_)|refine sy ?_|(refine aZ ?_;intros)|refine w0 ?_|fail));exact hQ.go _ _ _ zcz (.inr rfl) rfl ⟨rfl,rfl,trivial⟩ (λp hp=>by cases hp with|head=>rfl|tail _ h=>cases h with|head=>rfl|tail _ h=>cases h)
theorem ykv(d:Array Int)(a s:Nat)(x:Int)(hx:x=a)(h1:1<=a)(h2:a+1<d.size)(hz:d.size<=100000)(hs:s<=1000):zu1 (cx G) 195 [.own 1000,vi x,.ptr 9 0] (swM d s) (vi (Go.Sort.medianAdjacent ltInt d a s).1) (swM d (Go.Sort.medianAdjacent ltInt d a s).2) []:=by
 subst hx;refine zeu [(1000,0),(9,2)] Tryz.func195 rfl Tryz.ntmps195 rfl rfl rfl λQ hQ=>?_;have m1:=ylv (G:=G) d (a-1) a (a+1) s ((a:Int)-1) a ((a:Int)+1) oc rfl oc oc oc h2 hs;unfold Go.Sort.medianAdjacent at hQ
 (repeat' (first|((with_reducible apply kC);first|refine gM (p:=[]) (ys:=[_,_,_,_,_]) (q:=[]) m1 ?_)|refine sy ?_|(refine aZ ?_;intros)|refine w0 ?_|fail));exact hQ.go _ _ _ zcz (.inr rfl) rfl ⟨rfl,rfl,trivial⟩ (λp hp=>by cases hp with|head=>rfl|tail _ h=>cases h with|head=>rfl|tail _ h=>cases h)
def yo1:Go.Sort.Hint->Int
 | .unknown=>0
 | .increasing=>1
 | .decreasing=>2
theorem ynr{d:Array Int}{a s n:Nat}(h:a+1<n):(Go.Sort.medianAdjacent ltInt d a s).1<n:=by rcases Go.Sort.medianAdjacent_mem ltInt d a s with h|h|h<;>omega
theorem ytc{P G:Prop}(n:P)(h:Wr P->G:=by(intro nq9;first|((with_reducible apply kC);first|exact gM (p:=[]) (ys:=[_,_,_]) (q:=[]) m1 nq9.p|exact gM (p:=[]) (ys:=[_,_,_]) (q:=[]) m2 nq9.p|exact gM (p:=[]) (ys:=[_,_,_]) (q:=[]) m3 nq9.p|exact gM (p:=[]) (ys:=[_,_,_,_,_]) (q:=[]) m4 nq9.p))):G:=h ⟨n⟩
theorem yn8(d:Array Int)(a b:Nat)(hab:12<b-a)(hb:b<=d.size)(hs:d.size<=100000):zu1 (cx G) 175 [.own 1000,vi a,vi b] [(1000,.buf 1 3 (ia d))] (.tup [vi (Go.Sort.choosePivot ltInt d a b).1,vi (yo1 (Go.Sort.choosePivot ltInt d a b).2)]) [(1000,.buf 1 3 (ia d))] []:=by
 refine zeu [(1000,0)] Tryz.func175 rfl Tryz.ntmps175 rfl rfl rfl λQ hQ=>?_;generalize hl:b-a=l at hab;have q1:(a:Int)+((b:Int)-(a:Int)) / 4*1=((a+l / 4*1:Nat):Int):=oc
 have q2:(a:Int)+((b:Int)-(a:Int)) / 4*2=((a+l / 4*2:Nat):Int):=oc
 have q3:(a:Int)+((b:Int)-(a:Int)) / 4*3=((a+l / 4*3:Nat):Int):=oc
 have hd8:decide ((8:Int)<=(b:Int)-(a:Int))=true:=by simp;omega
 have h8:8<=l:=oc
 by_cases h50:50<=l
 .have hd50:decide ((50:Int)<=(b:Int)-(a:Int))=true:=by simp;omega
  have m1:=ykv (G:=G) d (a+l / 4*1) 0 _ q1 oc oc hs oc;have n1:=Go.Sort.medianAdjacent_count (lt:=ltInt) d (a+l / 4*1) 0;have p1:=ynr (d:=d) (a:=a+l / 4*1) (s:=0) (n:=d.size) oc;rw [Go.Sort.choosePivot_eq] at hQ;simp only [Go.Sort.rawPivot,hl,ge_iff_le,if_pos h8,if_pos h50] at hQ;generalize Go.Sort.medianAdjacent ltInt d (a+l / 4*1) 0=r1 at *
  have m2:=ykv (G:=G) d (a+l / 4*2) r1.2 _ q2 oc oc hs oc;have n2:=Go.Sort.medianAdjacent_count (lt:=ltInt) d (a+l / 4*2) r1.2;have p2:=ynr (d:=d) (a:=a+l / 4*2) (s:=r1.2) (n:=d.size) oc;generalize Go.Sort.medianAdjacent ltInt d (a+l / 4*2) r1.2=r2 at *;have m3:=ykv (G:=G) d (a+l / 4*3) r2.2 _ q3 oc oc hs oc
  have n3:=Go.Sort.medianAdjacent_count (lt:=ltInt) d (a+l / 4*3) r2.2;have p3:=ynr (d:=d) (a:=a+l / 4*3) (s:=r2.2) (n:=d.size) oc;generalize Go.Sort.medianAdjacent ltInt d (a+l / 4*3) r2.2=r3 at *;have m4:=ylv (G:=G) d r1.1 r2.1 r3.1 r3.2 r1.1 r2.1 r3.1 rfl rfl rfl p1 p2 p3 oc;generalize Go.Sort.median ltInt d r1.1 r2.1 r3.1 r3.2=r at *;unfold Go.Sort.hintOf at hQ
  by_cases z0:r.2=0
  .have hd0:decide ((r.2:Int)=0)=true:=oa z0
   rw [if_pos z0] at hQ;(repeat' (first|refine ytc ?_|refine sy ?_|(refine aZ ?_;intros)|refine w0 ?_|fail));exact hQ.g1 (.inr rfl) rfl ⟨rfl,trivial⟩ rfl
  .have hd0:decide ((r.2:Int)=0)=false:=oa z0
   rw [if_neg z0] at hQ;by_cases z2:r.2=12
   .have hd2:decide ((r.2:Int)=12)=true:=by simp;omega
    rw [if_pos z2] at hQ;(repeat' (first|refine ytc ?_|refine sy ?_|(refine aZ ?_;intros)|refine w0 ?_|fail));exact hQ.g1 (.inr rfl) rfl ⟨rfl,trivial⟩ rfl
   .have hd2:decide ((r.2:Int)=12)=false:=by simp;omega
    rw [if_neg z2] at hQ;(repeat' (first|refine ytc ?_|refine sy ?_|(refine aZ ?_;intros)|refine w0 ?_|fail));exact hQ.g1 (.inr rfl) rfl ⟨rfl,trivial⟩ rfl
 .have hd50:decide ((50:Int)<=(b:Int)-(a:Int))=false:=by simp;omega
  have m4:=ylv (G:=G) d (a+l / 4*1) (a+l / 4*2) (a+l / 4*3) 0 _ _ _ q1 q2 q3 oc oc oc oc;rw [Go.Sort.choosePivot_eq] at hQ;simp only [Go.Sort.rawPivot,hl,ge_iff_le,if_pos h8,if_neg h50] at hQ;generalize Go.Sort.median ltInt d (a+l / 4*1) (a+l / 4*2) (a+l / 4*3) 0=r at *;unfold Go.Sort.hintOf at hQ;by_cases z0:r.2=0
  .have hd0:decide ((r.2:Int)=0)=true:=oa z0
   rw [if_pos z0] at hQ;(repeat' (first|refine ytc ?_|refine sy ?_|(refine aZ ?_;intros)|refine w0 ?_|fail));exact hQ.g1 (.inr rfl) rfl ⟨rfl,trivial⟩ rfl
  .have hd0:decide ((r.2:Int)=0)=false:=oa z0
   rw [if_neg z0] at hQ;by_cases z2:r.2=12
   .have hd2:decide ((r.2:Int)=12)=true:=by simp;omega
    rw [if_pos z2] at hQ;(repeat' (first|refine ytc ?_|refine sy ?_|(refine aZ ?_;intros)|refine w0 ?_|fail));exact hQ.g1 (.inr rfl) rfl ⟨rfl,trivial⟩ rfl
   .have hd2:decide ((r.2:Int)=12)=false:=by simp;omega
    rw [if_neg z2] at hQ;(repeat' (first|refine ytc ?_|refine sy ?_|(refine aZ ?_;intros)|refine w0 ?_|fail));exact hQ.g1 (.inr rfl) rfl ⟨rfl,trivial⟩ rfl
end
end Go.Ab.J
