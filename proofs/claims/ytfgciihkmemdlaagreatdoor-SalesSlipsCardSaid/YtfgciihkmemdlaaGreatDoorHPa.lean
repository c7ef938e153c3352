/- Pieces of a law about sales. Conditions: none. -/
import Derived.Test.YtfgciihkmemdlaaGreatDoorZJ
import Derived.Test.YtfgciihkmemdlaaGreatDoorZu
namespace Go.Ab
open Go Go.RowKit
section types
variable{C:Cx}{t:Nat}{i:TI}
theorem Cx.under_bool(h:C.ti t=some i)(hs:i.sh=.bool):C.P.underlying t=some .bool:=by
 have:=Cx.ti_sh h;rw [hs] at this;unfold z3v at this;split at this<;>first|cases this|skip
 assumption
end types
section ops
variable{C:Cx}{N:Nat}{s:AS}{d:Nat}{ty:TypeId}{pos:String}{af:Array Edge}{g:Option (Nat×Bool)}
section arith
variable{x y:Operand}{t t':TypeId}{k:IntKind}{m n:Int}
theorem a_bne{a b:Bool}{i:TI}(hd:d<N)(ht:C.ti t=some i)(hs:i.sh=.bool)(hx:ev s x=some (.val (.bool a)))(hy:ev s y=some (.val (.bool b))):AOp C N ⟨some d,.binOp .neq t x y t',ty,pos,af,g⟩ (rds x++rds y) s [(2*d,.av (.val (.bool (!(a == b)))))] :=
 zb2 hd hx hy λρ w e1 e2=>by simp [execOp,e1,e2,eqGuard,binOp,run_equal_bool w t a b (Cx.under_bool ht hs)]
end arith
section addr
variable{x y:Operand}{t f o:Nat}
end addr
end ops
end Go.Ab
