/- Pieces of a law about sales. Conditions: none. -/
import Derived.Test.YtfgciihkmemdlaaGreatDoorHPc
namespace Go.Ab.J
open Go Go.Proofs Go.Kp
section
variable{G:zbf}{u:Nat->ByteArray}{E:Env}{w:World}
def sgL(l:List Bool):List AV:=[vb (l.getD 0 false),vb (l.getD 1 false),vb (l.getD 2 false),vb (l.getD 3 false),vb (l.getD 4 false),vb (l.getD 5 false)]
attribute [local irreducible] AOp AW ADr AFn ze1 AFt AOpJ
set_option maxRecDepth 20000
set_option maxHeartbeats 8000000
end
end Go.Ab.J
