/- What all laws about sales rest on, beside any goroutines. Conditions: none. -/
import Derived.Test.YtfgciihkmemdlaaGreatDoorZs
namespace Go.Ab.J
open Go Go.Proofs Go.Kp
section
variable{G:zbf}
attribute [local irreducible] AOp AW ADr AFn ze1 AFt AOpJ
set_option maxRecDepth 20000
set_option maxHeartbeats 8000000
theorem zd9(ss:List Slip)(ms:List SumR)(am:List Int):∀x∈zan ss ms am,0<=x/\x<(ms.length:Int):=λx hx=>by simp only [zan,zao,kav,kbw,ka3] at hx;obtain⟨j,⟨hj,_⟩,rfl⟩:=hx;omega
end
section
variable{G:zbf}
attribute [local irreducible] AOp AW ADr AFn ze1 AFt AOpJ
set_option maxRecDepth 20000
set_option maxHeartbeats 8000000
def zie:List Int->List Int->Bool
 | [],[]=>false
 | [],_::_=>true
 | _::_,[]=>false
 | x::xs,y::ys=>if x=y then zie xs ys else decide (x<y)
def zh3(p q:List Int):Bool:=decide (p.length<q.length)||(decide (p.length=q.length)&&zie p q)
end
section
variable{G:zbf}
attribute [local irreducible] AOp AW ADr AFn ze1 AFt AOpJ
set_option maxRecDepth 20000
set_option maxHeartbeats 8000000
theorem zze{G:zbf}{N:Nat}{s:AS}(t wd:Nat)(ht:zac s (2*t)=some (.av (.val (.slice none 0 0)))):Sub G N s ((2*t,.av (.sl wd []))::s):=λw0 a w E hr=>by
 refine⟨E,hr.sz,hr.df,hr.dfo,λt' x hx=>?_,λj c hc=>hr.mem j c (by rw [zaa,if_neg (oc)] at hc;exact hc),λj k b hjk hb=>?_,λj b hb=>hr.new j b (by rw [zaa,if_neg (oc)] at hb;exact hb),hr.imm,hr.ext,hr.old,λk c hk j hj=>?_,hr.glb⟩
 .rw [zaa] at hx;split at hx
  .cases hx;have:t'=t:=oc
   subst this;rw [(hr.tmp _ _ ht).val_eq];exact .nil wd
  .exact hr.tmp t' x hx
 .rw [zaa,if_neg oc] at hb |-;exact hr.dis j k b hjk hb
 .rw [zaa,if_neg oc];rw [zaa] at hk;split at hk
  .cases hk;simp [za7.ids,AV.ids] at hj
  .exact hr.scp k c hk j hj
end
section
variable{G:zbf}
attribute [local irreducible] AOp AW ADr AFn ze1 AFt AOpJ
set_option maxRecDepth 20000
set_option maxHeartbeats 8000000
def za0(l:List Int)(i k:Nat):Bool:=decide (l.getD k 0=l.getD i 0)
def mostU(l:List Int):Nat->Nat
 | 0=>0
 | n+1=>max (mostU l n) (zcg (za0 l n) l.length)
def zhj(g:Nat->Nat)(n0:Nat):Nat->Int×Nat
 | 0=>(-1,n0)
 | i+1=>if g i<(zhj g n0 i).2 then ((i:Int),g i) else zhj g n0 i
end
end Go.Ab.J
