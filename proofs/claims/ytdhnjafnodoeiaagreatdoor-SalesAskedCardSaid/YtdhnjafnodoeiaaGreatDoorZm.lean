/- What every law of the package's statements about sales rests on: the walk of the chapter's example, beside any other goroutines. Conditions: none. -/
import Derived.Test.YtdhnjafnodoeiaaGreatDoorZl
namespace Go.Ab.J
open Go Go.Proofs Go.Kp
section
variable{G:zbf}
attribute [local irreducible] AOp AW ADr AFn ze1 AFt AOpJ
abbrev il(l:List Int):List (List AV):=l.map fun z=>[vi z]
def zcn(f:Nat→Int):Nat→Int
 | 0=>0
 | n+1=>if zcn f n≠0 then zcn f n else f n
theorem zmy{f:Nat→Int}{i:Nat}(h:zcn f i≠0):∀{n:Nat},i≤n→zcn f n=zcn f i
 | 0,hn=>by have:i=0:=by omega
            subst this;rfl
 | n+1,hn=>by
   rcases kae n i with h1|h1
   ·have:i=n+1:=by omega
    subst this;rfl
   ·have:=zmy h h1;simp only [zcn];rw [this,if_pos h]
theorem zf6{f:Nat→Int}{i n:Nat}(h0:zcn f i=0)(h:f i≠0)(hi:i<n):zcn f n=f i:=by
 have h1:zcn f (i+1)=f i:=by simp only [zcn];rw [if_neg (by simp [h0])]
 rw [zmy (i:=i+1) (by rw [h1];exact h) hi,h1]
theorem ziz{f:Nat→Int}{i:Nat}(h0:zcn f i=0)(h:f i=0):zcn f (i+1)=0:=by simp only [zcn];rw [if_neg (by simp [h0]),h]
abbrev d7:Slip:=⟨0,0,0,0,0,0,0⟩
abbrev d5:SumR:=⟨0,0,0,0,false⟩
def zgb(ss:List Slip)(n:Nat):Int:=zcn (fun i=>ze6 ss i (ss.getD i d7)) n
def zdt(ss:List Slip):Int:=if zgb ss ss.length≠0 then zgb ss ss.length else if 2<(zae ss ss.length).length then 2 else 0
def zak(most:Int)(ss:List Slip)(ms:List SumR):Int:=if zh7 most ss.length≠0 then zh7 most ss.length else if zdt ss≠0 then zdt ss else zhz ms
def zko(ms:List SumR)(n:Nat):Int:=zcn (fun i=>if zcc (ms.getD i d5) then 1 else 0) n
theorem zq6(ms:List SumR):zko ms ms.length=if ms.any zcc then 1 else 0:=by
 have key:∀n,n≤ms.length→zko ms n=if (ms.take n).any zcc then 1 else 0:=fun n=>by
  induction n with
  | zero=>intro _;simp [zko,zcn]
  | succ n ih =>
    intro hn;have:=ih (by omega);unfold zko at this ⊢;have hlt:n<ms.length:=hn;simp only [zcn,this,kb8,kaa hlt,Option.toList,List.any_append,List.any_cons,List.any_nil,Bool.or_false];have:ms.getD n d5=ms[n]:=by simp [hlt]
    rw [this];cases (ms.take n).any zcc<;>cases zcc ms[n]<;>simp
 have:=key ms.length (kac _);rwa [kdl] at this
end
section
variable{G:zbf}
attribute [local irreducible] AOp AW ADr AFn ze1 AFt AOpJ
set_option maxRecDepth 20000
set_option maxHeartbeats 8000000
theorem to_a(a b:Int):AFn (cx G) 23 [vi a,vi b] (.agg [vi a,vi b]):=by refine zag Tryz.func23 rfl Tryz.ntmps23 rfl rfl rfl ?_ rfl;refine zab fun Q hQ=>?_;(repeat' (first|refine sx ?_|refine aS fun P9 h9=>?_|refine aB fun P9 _ _ _ _=>?_|refine w0 ?_|(refine s2 ?_ ?_<;>intro h7<;>try omega)));refine fe ?_;rfl
end
end Go.Ab.J
