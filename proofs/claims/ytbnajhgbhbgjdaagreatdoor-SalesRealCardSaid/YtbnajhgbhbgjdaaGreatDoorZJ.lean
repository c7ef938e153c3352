/- What all laws about sales rest on, beside any goroutines. Conditions: none. -/
import Derived.Test.YtbnajhgbhbgjdaaGreatDoorZI
namespace Go.Ab.J
open Go Go.Proofs Go.Kp
section
variable{G:zbf}{u:Nat->ByteArray}
theorem look_if{most:Int}{ss:List Slip}{ms:List SumR}(hg:Good most ss ms):zbt most ss ms 0=if (zah most ss ms).length=0 then 9 else 0:=by have hc:=(za2 most ss ms).2 hg;simp [zbt,hc]
attribute [local irreducible] AOp AW ADr AFn ze1 AFt AOpJ
set_option maxRecDepth 20000
set_option maxHeartbeats 16000000
end
end Go.Ab.J
