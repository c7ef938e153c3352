/- Pieces of a law about sales. Conditions: none. -/
import Derived.Test.YtfgciihkmemdlaaGreatDoorHPe
namespace Go.Ab
open Go Go.RowKit
section
variable{C:Cx}{N:Nat}{s:AS}{d:Nat}{ty:TypeId}{pos:String}{af:Array Edge}{g:Option (Nat×Bool)}{x y:Operand}{t t':TypeId}{k k':IntKind}{m n:Int}
def shrV(k:IntKind)(m n:Int):Int:=m / 2 ^ min n.toNat k.bits
end
end Go.Ab
namespace Go.Ab.J
open Go Go.Proofs Go.Kp
variable{G:zbf}
def yj2:Code->Option Code
 | .seq a b=>match yj2 a with
   | some c=>some c
   | none=>yj2 b
 | .block _ c=>yj2 c
 | .loop c=>some c
 | _=>none
attribute [local irreducible] AOp AW ADr AFn ze1 AFt AOpJ
attribute [local irreducible] shrV
set_option maxRecDepth 20000
set_option maxHeartbeats 8000000
end Go.Ab.J
