/- What all laws about sales rest on, beside any goroutines. Conditions: none. -/
import Derived.Test.YtfgciihkmemdlaaGreatDoorZI
namespace Go.Ab.J
open Go Go.Proofs Go.Kp
section
variable{G:zbf}{u:Nat->ByteArray}
theorem look_if{most:Int}{ss:List Slip}{ms:List SumR}(hg:Good most ss ms):zbt most ss ms 0=if (zah most ss ms).length=0 then 9 else 0:=by have hc:=(za2 most ss ms).2 hg;simp [zbt,hc]
theorem same_nil(u:Nat->ByteArray):AFn (cx (zch u)) 10 [bk 0 [] [],.agg [vi 0,.val (.slice none 0 0),.val (.slice none 0 0)]] (vb true):=zsx (yi2 0 [] [] od od) λI w vs _ h=>by obtain⟨v1,vs1,rfl,h1,h2⟩:=h.inv;obtain⟨v2,vs2,rfl,h3,h4⟩:=h2.inv;exact(h4.cons (yi6 h3)).cons h1
attribute [local irreducible] AOp AW ADr AFn ze1 AFt AOpJ
set_option maxRecDepth 20000
set_option maxHeartbeats 16000000
end
def GoT(u:Nat->ByteArray)(fn:Func)(k:Nat)(Q:Exit->AS->Prop)(s:AS):Prop:=∀c,tl k fn.body=some c->AW (cx (zch u)) none fn.ntmps c Q s
theorem got_of{u:Nat->ByteArray}{fn:Func}{k N:Nat}{Q:Exit->AS->Prop}{s:AS}{c:Code}(e:tl k fn.body=some c)(hN:fn.ntmps=N)(h:AW (cx (zch u)) none N c Q s):GoT u fn k Q s:=λc' e'=>by subst hN;exact kaw (e.symm.trans e')▸h
theorem got_at{u:Nat->ByteArray}{fn:Func}{k N:Nat}{Q:Exit->AS->Prop}{s s':AS}{c:Code}(h:GoT u fn k Q s')(e:tl k fn.body=some c)(hN:fn.ntmps=N)(hs:Sub (zch u) N s s'):AW (cx (zch u)) none N c Q s:=by subst hN;exact zbx hs (h c e)
abbrev EndT(u:Nat->ByteArray)(fn:Func)(Q:Exit->AS->Prop):Prop:=∀e s,((e=.normal\/e=.ret)/\zck (cx (zch u)) s fn.results.toList=some (vb true))->Q e s
end Go.Ab.J
