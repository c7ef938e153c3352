/- Pieces of a law about sales. Conditions: none. -/
import Derived.Test.YtbnajhgbhbgjdaaGreatDoorHLc
namespace Go.Ab.J
open Go Go.Proofs Go.Kp
section
variable{G:zbf}
attribute [local irreducible] AOp AW ADr AFn ze1 AFt AOpJ
set_option maxRecDepth 20000
set_option maxHeartbeats 8000000
theorem zw4{l:List Int}(h:zhn l){x:Int}(hx:0<=x/\x<=999):zhn (l++[x]):=λi=>by
 rcases kdd i l.length with h1|h1|h1
 .have:=h i;simpa [kai,kam h1] using this
 .subst h1;simpa using hx
 .have:(l++[x])[i]?=none:=kay oy;simp [this]
def zc7(ss:List Slip)(p:zfo):List Int:=(zdv ss p.1 p.2 ss.length).1
theorem zb6(ss:List Slip)(p:zfo):(zc7 ss p).length=ss.length:=zk3 _ _ _ _
theorem zma(ss:List Slip)(wr:List Int)(sg:List Bool)(h:zhn wr):∀n,zhn (zdv ss wr sg n).1
 | 0=>λi=>by simp [zdv]
 | n+1=>by
   have ih:=zma ss wr sg h n;have h1:=zw4 ih (h n);simp only [zdv];split
   .split
    .exact zm8 (zm8 h1 oe n) (h n) _
    .exact zm8 h1 oe n
   .exact h1
def zdk(most:Int)(ss:List Slip)(ms:List SumR)(p:zfo):Bool:=zxr ss p.1 p.2&&zf9 ss (zc7 ss p)&&decide (((zan ss ms (zc7 ss p)).length:Int)<=most)&&!zse ms (zan ss ms (zc7 ss p))
def allR(ss:List Slip):List zfo:=zhu ss ss.length 0 [] []
def zaj(most:Int)(ss:List Slip)(ms:List SumR):List zfo:=(allR ss).filter (zdk most ss ms)
theorem Good.k0{most:Int}{ss:List Slip}{ms:List SumR}(h:Good most ss ms):∀m∈ms,0<=m.kind:=λm hm=>(h.sum m hm).1.1
end
section
variable{G:zbf}
attribute [local irreducible] AOp AW ADr AFn ze1 AFt AOpJ
set_option maxRecDepth 20000
set_option maxHeartbeats 8000000
theorem erk1{G:Prop}(h:G:=by((repeat' (first|refine sx ?_|(refine aZ ?_;intros)|refine crk0 ?_|fail));refine fe ?_;rfl)):G:=h
theorem zwy(p q:List Int)(_hp:p.length<=100000)(hq:q.length<=100000):AFn (cx G) 86 [.sl 1 (il p),.sl 1 (il q)] (vb (zie p q)):=by
 refine aby Tryz.func86 Tryz.ntmps86 λQ hQ=>?_;(repeat' (first|refine sx ?_|(refine aZ ?_;intros)|refine crk0 ?_|fail));refine zbe (min p.length q.length) (λi=>zie p q=zie (p.drop i) (q.drop i)) (λi=>[(2*0,.av (.sl 1 (il p))),(2*1,.av (.sl 1 (il q))),(2*5,.av (vi i))]) rfl ?_ ?_
 .exact si
 .intro i hi hP;have hlp:(il p).length=p.length:=od
  have hlq:(il q).length=q.length:=od
  rcases kae i (min p.length q.length) with hlt|hge
  .obtain⟨x,hx⟩:∃x,p[i]?=some x:=⟨_,kaa oc⟩;obtain⟨y,hy⟩:∃y,q[i]?=some y:=⟨_,kaa oc⟩;have hxr:(il p)[i]?=some [vi x]:=zcm hx;have hyr:(il q)[i]?=some [vi y]:=zcm hy;have hxl:i<(il p).length:=by rw [hlp];omega
   have hyl:i<(il q).length:=by rw [hlq];omega
   have hd1:decide ((i:Int)<((il p).length:Int))=true:=decide_eq_true (by rw [hlp];omega);have hd2:decide ((i:Int)<((il q).length:Int))=true:=decide_eq_true (by rw [hlq];omega);have ep:p.drop i=x::p.drop (i+1):=by rw [<-List.getElem_cons_drop (h:=by omega)];congr 1;exact((kab.1 hx).2)
   have eq:q.drop i=y::q.drop (i+1):=by rw [<-List.getElem_cons_drop (h:=by omega)];congr 1;exact((kab.1 hy).2)
   rw [ep,eq] at hP;have hi1:vi ((i+1:Nat):Int)=vi ((i:Int)+1):=od
   by_cases hxy:x=y
   .have hdx:decide (x=y)=true:=oa hxy
    (repeat' (first|refine sx ?_|(refine aZ ?_;intros)|refine crk0 ?_|fail));refine⟨hlt,by rw [hP];simp [zie,hxy],?_⟩;exact si
   .have hdx:decide (x=y)=false:=oa hxy
    have hF:zie p q=decide (x<y):=by rw [hP];simp [zie,hxy]
    rw [hF] at hQ;exact erk1
  .have hF:zie p q=decide (((il p).length:Int)<((il q).length:Int)):=by
     rw [hP,hlp,hlq];rcases Nat.le_total p.length q.length with h|h
     .have e1:p.drop i=[]:=ka7.2 oc;rw [e1];cases e2:q.drop i with
      | nil=>have:=ka7.1 e2;simp [zie];omega
      | cons y ys =>
        have:i<q.length:=by
         rcases kae i q.length with h2|h2
         .exact h2
         .rw [ka7.2 h2] at e2;cases e2
        simp [zie];omega
     .have e1:q.drop i=[]:=ka7.2 oc;rw [e1];cases p.drop i<;>simp [zie]<;>omega
   rw [hF] at hQ;rcases kae i p.length with h1|h1
   .have hd1:decide ((i:Int)<((il p).length:Int))=true:=decide_eq_true (by rw [hlp];omega);have hd2:decide ((i:Int)<((il q).length:Int))=false:=decide_eq_false (by rw [hlq];omega);exact erk1
   .have hd1:decide ((i:Int)<((il p).length:Int))=false:=decide_eq_false (by rw [hlp];omega);exact erk1
theorem crk1{P G:Prop}(n:P)(h:Wr P->G:=by(intro n;first|((with_reducible apply kC);first|exact gB ⟨_,zwy _ _ hp hq,.mk rfl n.p⟩|exact gK n.p|exact gS n.p)|exact⟨_,zwy _ _ hp hq,n.p⟩|exact sk n.p|exact ap n.p)):G:=h ⟨n⟩
theorem zq8(p q:List Int)(hp:p.length<=100000)(hq:q.length<=100000):AFn (cx G) 32 [.sl 1 (il p),.sl 1 (il q)] (vb (zh3 p q)):=by
 refine aby Tryz.func32 Tryz.ntmps32 λQ hQ=>?_;have hlp:(il p).length=p.length:=od
 have hlq:(il q).length=q.length:=od
 by_cases h1:p.length<q.length
 .have hd1:decide (((il p).length:Int)<((il q).length:Int))=true:=decide_eq_true oF;(repeat' (first|refine sx ?_|(refine aZ ?_;intros)|refine crk1 ?_|fail));refine fe ?_;simp [zh3,h1]
 .have hd1:decide (((il p).length:Int)<((il q).length:Int))=false:=decide_eq_false oF;by_cases h2:p.length=q.length
  .have hd2:decide (((il p).length:Int)=((il q).length:Int))=true:=decide_eq_true oF;(repeat' (first|refine sx ?_|(refine aZ ?_;intros)|refine crk1 ?_|fail));refine fe ?_;simp [zh3,h2]
  .have hd2:decide (((il p).length:Int)=((il q).length:Int))=false:=decide_eq_false oF;(repeat' (first|refine sx ?_|(refine aZ ?_;intros)|refine crk1 ?_|fail));refine fe ?_;simp [zh3,h1,h2]
theorem zvj(most:Int)(ss:List Slip)(ms:List SumR)(now:List Int)(k a:Int)(hk:0<=k)(hn:ss.length<=20)(hl:now.length=ss.length)(hb:zhn now):AFn (cx G) 13 [bk most ss ms,.sl 1 (il now),vi k,vi a] (vi (zbo ss now k.toNat a ss.length)):=by have:=zpg (G:=G) most ss ms now k a hk hn oc hb;rwa [hl] at this
end
end Go.Ab.J
