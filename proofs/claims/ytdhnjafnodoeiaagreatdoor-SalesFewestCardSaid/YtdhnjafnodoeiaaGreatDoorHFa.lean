/- For every book the function SalesFewest answers true, whatever other goroutines do, and leaves its argument as it was. Conditions: those of the given row. -/
import Derived.Test.YtdhnjafnodoeiaaGreatDoorZu
import Derived.Test.YtdhnjafnodoeiaaGreatDoorZz
import Derived.Great.BuildSlice
import Derived.Maps.AppendAt
import Derived.WalkKit
namespace Go.Ab
open Go Go.RowKit
section types
variable{C:Cx}{t:Nat}{i:TI}
theorem Cx.under_bool(h:C.ti t=some i)(hs:i.sh=.bool):C.P.underlying t=some .bool:=by
 have:=Cx.ti_sh h;rw [hs] at this;unfold z3v at this;split at this<;>first|cases this|skip
 assumption
end types
section ops
variable{C:Cx}{N:Nat}{s:AS}{d:Nat}{ty:TypeId}{pos:String}{af:Array Edge}{g:Option (Nat×Bool)}
section arith
variable{x y:Operand}{t t':TypeId}{k:IntKind}{m n:Int}
theorem a_beq{a b:Bool}{i:TI}(hd:d<N)(ht:C.ti t=some i)(hs:i.sh=.bool)(hx:ev s x=some (.val (.bool a)))(hy:ev s y=some (.val (.bool b))):AOp C N ⟨some d,.binOp .eql t x y t',ty,pos,af,g⟩ (rds x++rds y) s [(2*d,.av (.val (.bool (a == b))))] :=
 zb2 hd hx hy fun ρ w e1 e2=>by simp [execOp,e1,e2,eqGuard,binOp,run_equal_bool w t a b (Cx.under_bool ht hs)]
theorem a_bne{a b:Bool}{i:TI}(hd:d<N)(ht:C.ti t=some i)(hs:i.sh=.bool)(hx:ev s x=some (.val (.bool a)))(hy:ev s y=some (.val (.bool b))):AOp C N ⟨some d,.binOp .neq t x y t',ty,pos,af,g⟩ (rds x++rds y) s [(2*d,.av (.val (.bool (!(a == b)))))] :=
 zb2 hd hx hy fun ρ w e1 e2=>by simp [execOp,e1,e2,eqGuard,binOp,run_equal_bool w t a b (Cx.under_bool ht hs)]
end arith
section addr
variable{x y:Operand}{t f o:Nat}
end addr
end ops
section ops
variable{C:Cx}{N:Nat}{s:AS}{d:Nat}{ty:TypeId}{pos:String}{af:Array Edge}{g:Option (Nat×Bool)}{x y:Operand}{t:TypeId}{ti:TI}{k:IntKind}{q:Int}{n:Nat}
theorem a_lenN(hd:d<N)(hx:ev s x=some (.val (.slice none 0 0)))(ht:C.isl t=true) :
  AOp C N ⟨some d,.call { callee:=.builtin .len,args:=#[x],argTypes:=#[t] },ty,pos,af,g⟩ (rds x) s [(2*d,.av (.val (.int .i64 0)))]:=by
 obtain⟨e,hu⟩:=Cx.isl_of ht
 exact zux hd hx fun ρ w e1=>zi1 e1 (ze7 hu)
end ops
end Go.Ab
