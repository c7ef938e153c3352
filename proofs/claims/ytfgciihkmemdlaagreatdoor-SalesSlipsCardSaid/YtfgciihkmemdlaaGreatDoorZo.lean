/- What all laws about sales rest on, beside any goroutines. Conditions: none. -/
import Derived.Test.YtfgciihkmemdlaaGreatDoorZn
namespace Go.Ab.J
open Go Go.Proofs Go.Kp
section
variable{G:zbf}
attribute [local irreducible] AOp AW ADr AFn ze1 AFt AOpJ
set_option maxRecDepth 20000
set_option maxHeartbeats 8000000
abbrev bl(l:List Bool):List (List AV):=l.map λb=>[vb b]
theorem zcm{l:List Int}{i:Nat}{x:Int}(h:l[i]?=some x):(il l)[i]?=some [vi x]:=by simp [h]
end
section
variable{G:zbf}
attribute [local irreducible] AOp AW ADr AFn ze1 AFt AOpJ
set_option maxRecDepth 20000
set_option maxHeartbeats 8000000
theorem zoq{α β:Type}{l:List α}{f:α->List β}{k:Nat}(h:∀x∈l,(f x).length<=k):(l.flatMap f).length<=l.length*k:=by
 induction l with
 | nil=>simp
 | cons x l ih =>simp only [keb,kbx,kbo];have h1:=h x od;have h2:=ih λy hy=>h y (by simp [hy]);rw [kct];omega
theorem zl0(lo hi:Int):(zbr lo hi).length=(hi-lo+1).toNat:=by simp [zbr]
end
end Go.Ab.J
