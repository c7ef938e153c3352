/- For every book, whatever was written and whichever sums are false, the function SalesAsked answers true, whatever other goroutines do, and leaves its arguments as they were. Conditions: those of the given row. -/
import Derived.Test.YtdhnjafnodoeiaaGreatDoorZu
import Derived.Test.YtdhnjafnodoeiaaGreatDoorZz
import Derived.AtR
import Derived.Calls
import Derived.Conc.AtomicLaws2
import Derived.Conc.Beside
import Derived.Conc.ClockLaws
import Derived.Conc.CompanyDraw
import Derived.Conc.CompanyMem
import Derived.Conc.HoldsTime
import Derived.Conc.LockJoin
import Derived.Conc.MarkLaws
import Derived.Conc.MuSpec
import Derived.Conc.MuStops
import Derived.Conc.Own
import Derived.Conc.Starve
import Derived.Conc.WgArith
import Derived.Great.BuildSlice
import Derived.Great.FillDense
import Derived.Laws.OwnMore
import Derived.Laws.Sem
import Derived.LoopNIn
import Derived.MapKept
import Derived.Maps.AppendAt
import Derived.OwnWalkIn
import Derived.RangeFuncBound
import Derived.RangeFuncCalls
import Derived.RangeFuncLeaves
import Derived.RangeFuncNested
import Derived.RangeFuncRecord
import Derived.Shelf.Abstract
import Derived.TacticsInMore
import Derived.WalkKit
namespace Go.Ab
open Go Go.RowKit
section types
variable{C:Cx}{t:Nat}{i:TI}
theorem Cx.under_bool(h:C.ti t=some i)(hs:i.sh=.bool):C.P.underlying t=some .bool:=by
 have:=Cx.ti_sh h;rw [hs] at this;unfold z3v at this;split at this<;>first|cases this|skip
 assumption
end types
section ops
variable{C:Cx}{N:Nat}{s:AS}{d:Nat}{ty:TypeId}{pos:String}{af:Array Edge}{g:Option (Nat×Bool)}
section arith
variable{x y:Operand}{t t':TypeId}{k:IntKind}{m n:Int}
theorem a_bne{a b:Bool}{i:TI}(hd:d<N)(ht:C.ti t=some i)(hs:i.sh=.bool)(hx:ev s x=some (.val (.bool a)))(hy:ev s y=some (.val (.bool b))):AOp C N ⟨some d,.binOp .neq t x y t',ty,pos,af,g⟩ (rds x++rds y) s [(2*d,.av (.val (.bool (!(a == b)))))] :=
 zb2 hd hx hy fun ρ w e1 e2=>by simp [execOp,e1,e2,eqGuard,binOp,run_equal_bool w t a b (Cx.under_bool ht hs)]
end arith
section addr
variable{x y:Operand}{t f o:Nat}
end addr
end ops
section more
variable{C:Cx}{N:Nat}{s:AS}{d:Nat}{ty:TypeId}{pos:String}{af:Array Edge}{g:Option (Nat×Bool)}{x y:Operand}{t t':TypeId}{k k':IntKind}{m n:Int}
theorem a_rem(hd:d<N)(hx:ev s x=some (.val (.int k m)))(hy:ev s y=some (.val (.int k n)))(h0:0≤m∧0<n):AOp C N ⟨some d,.binOp .rem t x y t',ty,pos,af,g⟩ (rds x++rds y) s [(2*d,.av (.val (.int k (m % n))))] :=
 zb2 hd hx hy fun ρ w e1 e2=>by
  have hn:n≠0:=by omega
  have:m.tmod n=m % n:=Int.tmod_eq_emod_of_nonneg h0.1;simp [execOp,e1,e2,eqGuard,binOp,Op.intDiv,hn,this]
theorem a_quo(hd:d<N)(hx:ev s x=some (.val (.int k m)))(hy:ev s y=some (.val (.int k n)))(h0:0≤m∧0<n)(h:inI k (m / n)):AOp C N ⟨some d,.binOp .quo t x y t',ty,pos,af,g⟩ (rds x++rds y) s [(2*d,.av (.val (.int k (m / n))))] :=
 zb2 hd hx hy fun ρ w e1 e2=>by
  have hn:n≠0:=by omega
  have e:m.tdiv n=m / n:=Int.tdiv_eq_ediv_of_nonneg h0.1;simp [execOp,e1,e2,eqGuard,binOp,Op.intDiv,hn,e,show k.wrap (m / n)=m / n from h]
end more
end Go.Ab
namespace Go.Ab.J
open Go Go.RowKit
section kindf
variable{C:Cx}{R:List Nat}{s:AS}{d:Option Nat}{ty:TypeId}{pos:String}{af:Array Edge}{g:Option (Nat×Bool)}{x y z:Operand}{t t':TypeId}
theorem kf_conv(h:AFt C ⟨d,.convert t t' x,ty,pos,af,g⟩ R s):AFt C ⟨d,.convert t t' x,ty,pos,af,g⟩ R s:=h
end kindf
section drive
variable{C:Cx}{r:Option Nat}{N:Nat}{ops rest:List Oper}{dr:Bool}{K:AS→Prop}{o:Oper}{acc:List (List Nat×List Nat)}{R:List Nat}{s:AS}{k k2 k3:Nat}{c c2 c3:za7}
end drive
section kind
variable{C:Cx}{r:Option Nat}{N:Nat}{R:List Nat}{s u:AS}{d:Nat}{ty:TypeId}{pos:String}{af:Array Edge}{g:Option (Nat×Bool)}
end kind
section
variable{C:Cx}{r:Option Nat}{N:Nat}{ops rest:List Oper}{dr:Bool}{K:AS→Prop}{o:Oper}{acc:List (List Nat×List Nat)}{R G:List Nat}{s:AS}{k k2 k3 j t d:Nat}{c c2 c3:za7}{want e:Bool}
variable{Q:Exit→AS→Prop}{a b:Code}{x:Operand}{i id:Nat}{l:List Oper}
end
end Go.Ab.J
