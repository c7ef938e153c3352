/- What all laws about sales rest on, beside any goroutines. Conditions: none. -/
import Derived.Test.YtbnajhgbhbgjdaaGreatDoorZs
namespace Go.Ab.J
open Go Go.Proofs Go.Kp
section
variable{G:zbf}
attribute [local irreducible] AOp AW ADr AFn ze1 AFt AOpJ
set_option maxRecDepth 20000
set_option maxHeartbeats 8000000
theorem zd9(ss:List Slip)(ms:List SumR)(am:List Int):∀x∈zan ss ms am,0<=x/\x<(ms.length:Int):=λx hx=>by simp only [zan,zao,kav,kbw,ka3] at hx;obtain⟨j,⟨hj,_⟩,rfl⟩:=hx;omega
end
section
variable{G:zbf}
attribute [local irreducible] AOp AW ADr AFn ze1 AFt AOpJ
set_option maxRecDepth 20000
set_option maxHeartbeats 8000000
theorem crk0{P G:Prop}(n:P)(h:Wr P->G:=by(intro n;first|((with_reducible apply kC);first|exact gB ⟨_,zv8 _ _ _,.mk rfl n.p⟩|exact gK n.p|exact gS n.p)|exact⟨_,zv8 _ _ _,n.p⟩|exact sk n.p|exact ap n.p)):G:=h ⟨n⟩
theorem erk0{G:Prop}(h:G:=by((repeat' (first|refine sx ?_|(refine aZ ?_;intros)|refine crk0 ?_|fail));refine fe ?_;rw [hF])):G:=h
theorem hasR_a(l:List Int)(x:Int)(hl:l.length<=100000):AFn (cx G) 14 [.sl 1 (il l),vi x] (vb (decide (x∈l))):=by
 refine aby Tryz.func14 Tryz.ntmps14 λQ hQ=>?_;(repeat' (first|refine sx ?_|(refine aZ ?_;intros)|refine crk0 ?_|fail));refine zbe l.length (λi=>∀j,j<i->l.getD j 0≠x) (λi=>[(2*0,.av (.sl 1 (il l))),(2*1,.av (vi x)),(2*5,.av (vi i))]) (λj hj=>oc) ?_ ?_
 .exact si
 .intro i hi hP;rcases kae i l.length with hlt|hge
  .obtain⟨z,hz⟩:∃z,l[i]?=some z:=⟨_,kaa hlt⟩;have hzr:(il l)[i]?=some [vi z]:=zcm hz;have hzl:i<(il l).length:=by simp;omega
   have hgz:l.getD i 0=z:=by simp [hz]
   have hd:decide ((i:Int)<((il l).length:Int))=true:=by simp;omega
   by_cases hx:z=x
   .have hdx:decide (z=x)=true:=oa hx
    have hF:decide (x∈l)=true:=by subst hx;simpa using kag hz
    exact erk0
   .have hdx:decide (z=x)=false:=oa hx
    (repeat' (first|refine sx ?_|(refine aZ ?_;intros)|refine crk0 ?_|fail));refine⟨hlt,λj hj=>?_,?_⟩
    .rcases kae j i with h|h
     .exact hP j h
     .have:j=i:=oc
      subst this;rw [hgz];exact hx
    .exact si
  .have he:i=l.length:=oc
   subst he;have hd:decide ((l.length:Int)<((il l).length:Int))=false:=od
   have hF:decide (x∈l)=false:=decide_eq_false λhm=>by obtain⟨j,hj⟩:=kba hm;exact hP j (kab.1 hj).1 (by simp [hj])
   exact erk0
def zie:List Int->List Int->Bool
 | [],[]=>false
 | [],_::_=>true
 | _::_,[]=>false
 | x::xs,y::ys=>if x=y then zie xs ys else decide (x<y)
def zh3(p q:List Int):Bool:=decide (p.length<q.length)||(decide (p.length=q.length)&&zie p q)
end
section
variable{G:zbf}
attribute [local irreducible] AOp AW ADr AFn ze1 AFt AOpJ
set_option maxRecDepth 20000
set_option maxHeartbeats 8000000
theorem zze{G:zbf}{N:Nat}{s:AS}(t wd:Nat)(ht:zac s (2*t)=some (.av (.val (.slice none 0 0)))):Sub G N s ((2*t,.av (.sl wd []))::s):=λw0 a w E hr=>by
 refine⟨E,hr.sz,hr.df,hr.dfo,λt' x hx=>?_,λj c hc=>hr.mem j c (by rw [zaa,if_neg (oc)] at hc;exact hc),λj k b hjk hb=>?_,λj b hb=>hr.new j b (by rw [zaa,if_neg (oc)] at hb;exact hb),hr.imm,hr.ext,hr.old,λk c hk j hj=>?_,hr.glb⟩
 .rw [zaa] at hx;split at hx
  .cases hx;have:t'=t:=oc
   subst this;rw [(hr.tmp _ _ ht).val_eq];exact .nil wd
  .exact hr.tmp t' x hx
 .rw [zaa,if_neg oc] at hb |-;exact hr.dis j k b hjk hb
 .rw [zaa,if_neg oc];rw [zaa] at hk;split at hk
  .cases hk;simp [za7.ids,AV.ids] at hj
  .exact hr.scp k c hk j hj
end
section
variable{G:zbf}
attribute [local irreducible] AOp AW ADr AFn ze1 AFt AOpJ
set_option maxRecDepth 20000
set_option maxHeartbeats 8000000
def za0(l:List Int)(i k:Nat):Bool:=decide (l.getD k 0=l.getD i 0)
def mostU(l:List Int):Nat->Nat
 | 0=>0
 | n+1=>max (mostU l n) (zcg (za0 l n) l.length)
def zhj(g:Nat->Nat)(n0:Nat):Nat->Int×Nat
 | 0=>(-1,n0)
 | i+1=>if g i<(zhj g n0 i).2 then ((i:Int),g i) else zhj g n0 i
end
end Go.Ab.J
