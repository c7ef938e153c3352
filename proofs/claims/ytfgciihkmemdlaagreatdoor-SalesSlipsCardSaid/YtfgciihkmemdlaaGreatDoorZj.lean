/- What all laws about sales rest on, beside any goroutines. Conditions: none. -/
import Derived.Test.YtfgciihkmemdlaaGreatDoorZi
namespace Go.Ab.J
open Go Go.RowKit Go.Kp
open Go.Kp (Wr)
theorem aS{C:Cx}{r:Option Nat}{N:Nat}{s:AS}{c e:Code}{Q:Exit->AS->Prop}(h:∀P:AS->Prop,(∀s,AW C r N e Q s->P s)->AW C r N c (zii P Q) s):AW C r N (.seq c e) Q s:=ybl h
theorem aB{C:Cx}{r:Option Nat}{N:Nat}{s:AS}{c:Code}{i:Nat}{Q:Exit->AS->Prop}(h:∀Q':Exit->AS->Prop,(∀s,Q .normal s->Q' .normal s)->(∀s,Q .normal s->Q' (.exit i) s)->(∀s,Q .ret s->Q' .ret s)->(∀j s,Nat.beq j i=false->Q (.exit j) s->Q' (.exit j) s)->AW C r N c Q' s):AW C r N (.block i c) Q s:=z2u h
theorem sx{P G:Prop}(n:P)(h:Wr P->G:=by
 (intro n
  first
  | ((with_reducible apply ydl);first|((with_reducible apply kC);first|exact gC n.p|exact gF n.p)|((fail_if_success with_reducible apply kC);first|exact gF n.p|exact g1 n.p|exact g2 n.p|exact g3 n.p|exact gE n.p|exact gN n.p|exact gS n.p))
  | ((with_reducible apply k_aw);first|exact wR n.p|exact wD n.p|exact wT n.p|exact wF n.p|exact wN n.p|exact wC n.p|exact zuq n.p|exact zur n.p|exact z2q n.p)
  | (with_reducible exact zlw n.p)|(with_reducible exact zvd n.p)|(with_reducible exact zq4 n.p))):G:=h ⟨n⟩
theorem sk{P G:Prop}(n:P)(h:Wr P->G:=by
 (intro n b9 h9
  first
  | (have h8:b9=true:=h9.symm.trans oq;subst h8;rw [h9];exact n.p)
  | (have h8:b9=false:=h9.symm.trans oq;subst h8;rw [h9];exact n.p))):G:=h ⟨n⟩
theorem s2{P1 P2 G:Prop}(n1:P1)(n2:P2)(h:Wr P1->Wr P2->G:=by
 (intro n1 n2 b9 h9
  cases b9
  .first|(have h7:=of_decide_eq_false h9;rw [h9];clear h9;revert h7;exact n1.p)|(rw [h9];revert h9;exact n1.p)
  .first|(have h7:=of_decide_eq_true h9;rw [h9];clear h9;revert h7;exact n2.p)|(rw [h9];revert h9;exact n2.p))):G:=h ⟨n1⟩ ⟨n2⟩
theorem ap{P G:Prop}(n:P)(h:Wr P->G:=by(intro n;with_reducible apply_assumption -exfalso -symm;all_goals first|exact(rfl:Nat.beq _ _=false)|exact n.p)):G:=h ⟨n⟩
theorem w0{P G:Prop}(n:P)(h:Wr P->G:=by(intro n;first|((with_reducible apply kC);first|exact gK n.p|exact gS n.p)|exact⟨_,by assumption,n.p⟩|exact sk n.p|exact ap n.p)):G:=h ⟨n⟩
theorem aZ{P G:Prop}(n:P)(h:Wr P->G:=by(intro n;first|exact aS n.p|exact aB n.p)):G:=h ⟨n⟩
theorem fe{P G:Prop}(n:P)(h:Wr P->G:=by(intro n;first|exact ydu rfl n.p|exact fin_eqN rfl n.p)):G:=h ⟨n⟩
theorem si{G:zbf}{N:Nat}{s s':AS}(h:yb7 s s':=by repeat' (first|exact zg3|(refine ze5 (by first|exact rfl|(simp only [*];exact rfl)) ?_)))(hs:zhp (zeb s') s'=true:=by exact rfl):Sub G N s s':=znv h hs
theorem sr{ρ:Nat->Nat}{s l:AS}(h:z65 ρ s l:=by repeat' (first|exact z4c|(refine zzg (by first|exact rfl|(simp only [*];exact rfl)) ?_))):z65 ρ s l:=h
end Go.Ab.J
namespace Go.Kp
open Go
theorem yof:∀{p q:List Int},p.Pairwise (· < ·)->q.Pairwise (· < ·)->(∀x,x∈p↔x∈q)->p=q
 | [],[],_,_,_=>rfl
 | [],y::q,_,_,h=>absurd ((h y).2 (kdo ..)) od
 | x::p,[],_,_,h=>absurd ((h x).1 (kdo ..)) od
 | x::p,y::q,hp,hq,h=>by
   rw [List.pairwise_cons] at hp hq;have hxy:x=y:=by
    have h1:=(h x).1 (kdo ..);have h2:=(h y).2 (kdo ..);rcases kat.1 h1 with h1|h1
    .exact h1
    rcases kat.1 h2 with h2|h2
    .exact h2.symm
    have:=hq.1 x h1;have:=hp.1 y h2;omega
   subst hxy;congr 1;refine yof hp.2 hq.2 λz=>⟨λhz=>?_,λhz=>?_⟩
   .have h1:=hp.1 z hz;rcases kat.1 ((h z).1 (kdh _ hz)) with h2|h2
    .omega
    .exact h2
   .have h1:=hq.1 z hz;rcases kat.1 ((h z).2 (kdh _ hz)) with h2|h2
    .omega
    .exact h2
def cpU(l:List Int):Nat->List Int
 | 0=>[]
 | n+1=>if n=0\/l.getD n 0≠l.getD (n-1) 0 then cpU l n++[l.getD n 0] else cpU l n
def cpF(l:List Int):List Int:=cpU l l.length
theorem ymd(l:List Int):∀n,(cpU l n).length<=n
 | 0=>kac _
 | n+1=>by have:=ymd l n;unfold cpU;split<;>simp<;>omega
theorem ykr{l:List Int}{n:Nat}(h:n<l.length):l.take (n+1)=l.take n++[l.getD n 0]:=by rw [kb8,kaa h];simp [h]
theorem ynn{l:List Int}(hl:l.Pairwise (·<=·)):∀n,n<=l.length->(cpU l n).Pairwise (· < ·)/\(∀x,x∈cpU l n↔x∈l.take n)/\∀x∈cpU l n,x<=l.getD (n-1) 0
 | 0,_=>⟨List.Pairwise.nil,λx=>by simp [cpU],λx hx=>by cases hx⟩
 | n+1,h=>by
   obtain⟨h1,h2,h3⟩:=ynn hl n oc;have hn:n<l.length:=h;have hget:l.getD n 0=l[n]:=by simp [hn]
   rw [kec];rcases kbj n with rfl|hp
   .have e:cpU l 1=[l.getD 0 0]:=by simp [cpU]
    rw [e,ykr hn];exact⟨List.pairwise_singleton _ _,λx=>od,λx hx=>by simp at hx;rw [hx];simp⟩
   have hle:l.getD (n-1) 0<=l.getD n 0:=by
    have hn1:n-1<l.length:=oc
    have:=kea.1 hl (n-1) n hn1 hn oc;rw [hget];simpa [hn1] using this
   have hall:∀x∈cpU l n,x<=l.getD n 0:=λx hx=>Int.le_trans (h3 x hx) hle;unfold cpU;by_cases he:l.getD n 0≠l.getD (n-1) 0
   .rw [if_pos (.inr he)];refine⟨?_,λx=>by rw [kax,h2 x,ykr hn,kax],λx hx=>?_⟩
    .rw [List.pairwise_append];refine⟨h1,List.pairwise_singleton _ _,λa ha b hb=>?_⟩;rw [kcg] at hb;subst hb;have:=h3 a ha;omega
    .rcases kax.1 hx with hx|hx
     .exact hall x hx
     .rw [kcg] at hx;omega
   .have he:l.getD n 0=l.getD (n-1) 0:=Classical.byContradiction he;rw [if_neg (by intro h;rcases h with h|h;omega;exact h he)];refine⟨h1,λx=>?_,hall⟩;rw [h2 x,ykr hn,kax,kcg];refine⟨.inl,λhx=>hx.elim id λhx=>?_⟩;rw [hx,he];have hn1:n-1<l.length:=oc
    rw [show n=n-1+1 by omega,ykr hn1];simp
def dnK(out:List Int)(x:Int):Nat->Nat
 | 0=>0
 | k+1=>if x<=out.getD k 0 then dnK out x k else k+1
def yo0(out:List Int)(x:Int):List Int :=
 if dnK out x out.length<out.length/\out.getD (dnK out x out.length) 0=x then out else out.take (dnK out x out.length)++[x]++out.drop (dnK out x out.length)
def ymw(l:List Int):Nat->List Int
 | 0=>[]
 | n+1=>yo0 (ymw l n) (l.getD n 0)
theorem ymo(out:List Int)(x:Int):∀n,dnK out x n<=n/\(∀j,dnK out x n<=j->j<n->x<=out.getD j 0)/\(dnK out x n=0\/out.getD (dnK out x n-1) 0<x)
 | 0=>⟨kac _,λj _ h=>oc,.inl rfl⟩
 | n+1=>by
   obtain⟨h1,h2,h3⟩:=ymo out x n;unfold dnK;by_cases h:x<=out.getD n 0
   .rw [if_pos h];refine⟨oc,λj a b=>?_,h3⟩;by_cases hj:j=n
    .subst hj;exact h
    .exact h2 j a oc
   .rw [if_neg h];exact⟨kac _,λj a b=>oc,.inr (by rw [kec];omega)⟩
theorem ylf{l:List Int}{i:Nat}(h:i<l.length):l.getD i 0=l[i]:=by simp [h]
theorem yn2{out:List Int}(h:out.Pairwise (· < ·))(x:Int):(yo0 out x).Pairwise (· < ·)/\∀y,y∈yo0 out x↔y=x\/y∈out:=by
 obtain⟨h1,h2,h3⟩:=ymo out x out.length;unfold yo0;generalize dnK out x out.length=k at h1 h2 h3 |-;have hlo:∀y∈out.take k,y<x:=λy hy=>by
  rcases h3 with h3|h3
  .rw [h3] at hy;simp at hy
  .obtain⟨i,hi,rfl⟩:=ked hy;rw [kcj] at hi;rw [List.getElem_take];have hk:k-1<out.length:=oc
   rw [ylf hk] at h3;rcases kae i (k-1) with hl|hl
   .have:=kea.1 h i (k-1) oc hk hl;omega
   .have:i=k-1:=oc
    subst this;exact h3
 have hhi:∀y∈out.drop k,x<=y:=λy hy=>by obtain⟨i,hi,rfl⟩:=ked hy;rw [List.length_drop] at hi;rw [List.getElem_drop];have:=h2 (k+i) oc oc;rwa [ylf oc] at this
 split
 .rename_i hk;refine⟨h,λy=>⟨.inr,λhy=>hy.elim (λhy=>?_) id⟩⟩;rw [hy,<-hk.2,ylf hk.1];exact kbf _
 .rename_i hk;have hhi2:∀y∈out.drop k,x<y:=λy hy=>by
    have h4:=hhi y hy;rcases Int.lt_or_eq_of_le h4 with h5|h5
    .exact h5
    .exfalso;obtain⟨i,hi,he⟩:=ked hy;rw [List.length_drop] at hi;have hk2:k<out.length:=oc
     have hge:¬out.getD k 0=x:=λe=>hk ⟨hk2,e⟩;have hkk:=h2 k (kac _) hk2;rw [ylf hk2] at hge hkk;rw [List.getElem_drop] at he;rcases kbj i with hz|hz
     .subst hz;simp only [kb1] at he;omega
     .have:=kea.1 h k (k+i) hk2 oc oc;omega
  have hsp:out.take k++out.drop k=out:=kd9 k out;have hpw:=h;rw [<-hsp,List.pairwise_append] at hpw;refine⟨?_,λy=>?_⟩
  .rw [kbg,List.pairwise_append];refine⟨hpw.1,?_,λa ha b hb=>?_⟩
   .rw [List.singleton_append,List.pairwise_cons];exact⟨hhi2,hpw.2.1⟩
   .have h5:=hlo a ha;rcases kax.1 hb with hb|hb
    .rw [kcg] at hb;omega
    .have:=hhi2 b hb;omega
  .rw [kax,kax,kcg]
   conv=>rhs;rw [<-hsp,kax]
   constructor
   .rintro((h|h)|h)
    .exact .inr (.inl h)
    .exact .inl h
    .exact .inr (.inr h)
   .rintro(h|h|h)
    .exact .inl (.inr h)
    .exact .inl (.inl h)
    .exact .inr h
theorem yl5(l:List Int):∀n,n<=l.length->(ymw l n).Pairwise (· < ·)/\∀x,x∈ymw l n↔x∈l.take n
 | 0,_=>⟨List.Pairwise.nil,λx=>by simp [ymw]⟩
 | n+1,h=>by obtain⟨h1,h2⟩:=yl5 l n oc;obtain⟨h3,h4⟩:=yn2 h1 (l.getD n 0);refine⟨h3,λx=>?_⟩;rw [ykr h,kax,kcg];show x∈yo0 (ymw l n) (l.getD n 0)↔_;rw [h4 x,h2 x];exact Or.comm
def yls(l:List Int):List Int:=ymw l l.length
theorem yk7(l:List Int):(yls l).Pairwise (· < ·)/\∀x,x∈yls l↔x∈l:=by obtain⟨h1,h2⟩:=yl5 l l.length (kac _);exact⟨h1,λx=>by rw [yls,h2 x,kdl]⟩
def ym6(l:List Int):List Int:=l.mergeSort (λx y=>decide (x<=y))
theorem ylc(l:List Int):(ym6 l).Pairwise (·<=·)/\(∀x,x∈ym6 l↔x∈l)/\(ym6 l).length=l.length:=by refine⟨?_,λx=>List.mem_mergeSort,List.length_mergeSort _⟩;have:=List.pairwise_mergeSort (le:=λx y:Int=>decide (x<=y)) (λa b c h1 h2=>by simp at *;omega) (λa b=>by simp;omega) l;exact this.imp λh=>oa h
theorem ynm(l:List Int):cpF (ym6 l)=yls l:=by obtain⟨h1,h2,h3⟩:=ylc l;obtain⟨a1,a2,_⟩:=ynn h1 (ym6 l).length (kac _);obtain⟨b1,b2⟩:=yk7 l;exact yof a1 b1 λx=>by rw [cpF,a2 x,kdl,h2 x,b2 x]
end Go.Kp
