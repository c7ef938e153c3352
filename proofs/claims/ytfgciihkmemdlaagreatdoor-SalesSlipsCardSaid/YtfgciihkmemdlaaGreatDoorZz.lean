/- What all laws about sales rest on, beside any goroutines. Conditions: none. -/
import Derived.Test.YtfgciihkmemdlaaGreatDoorZk
import Derived.Test.YtfgciihkmemdlaaGreatDoorZx
namespace Go.Ab.J
open Go Go.Proofs Go.Kp
section
variable{G:zbf}{u:Nat->ByteArray}
theorem z1w : (Tryz.prog.fieldsOf 33).toList.map (λf => (f.name, f.type, f.offset)) = [("Low", 3, 0), ("High", 3, 1)] := by kernel_rfl
theorem z32:Tryz.prog.underlying 33=some (.struct (Tryz.prog.fieldsOf 33)):=by kernel_rfl
theorem z4d:Tryz.prog.stoodInHeld 33=false:=by kernel_rfl
theorem z5j:Tryz.prog.eqGuardType Tryz.prog.depth 33=false:=by kernel_rfl
theorem z00{α:Type}:∀{l:List α},l.length=2->∃a b,l=[a,b]
 | [a,b],_=>⟨a,b,rfl⟩
theorem z4g(a b:Int)(w:World):(Op.equal 33 (.agg #[.int .i64 a,.int .i64 b]) (.agg #[.int .i64 a,.int .i64 b])).run Tryz.prog w=.ok true w:=by
 show(Op.equalIn (9999+1) _ _ _).run _ _=_;rw [run_equalIn_struct w 9999 _ _ _ z32 z4d];have hf:=z1w;generalize (Tryz.prog.fieldsOf 33).toList=fs at hf;obtain⟨f,g,rfl⟩:∃f g,fs=[f,g]:=z00 (by have:=congrArg List.length hf;simpa using this);simp only [kbq,kej,kc8,Prod.mk.injEq,and_true] at hf;obtain⟨⟨h1,h2,h3⟩,h4,h5,h6⟩:=hf;have hn : f.name ≠ "_" := by rw [h1]; decide
 have hm : g.name ≠ "_" := by rw [h4]; decide
 have p0:∀w,(part 3 #[Value.int .i64 a,Value.int .i64 b] 0).run Tryz.prog w=.ok (.int .i64 a) w:=λw=>zdu _ _ _ rfl w;have p1:∀w,(part 3 #[Value.int .i64 a,Value.int .i64 b] 1).run Tryz.prog w=.ok (.int .i64 b) w:=λw=>zdu _ _ _ rfl w;simp [Op.eqFields,if_pos hn,if_pos hm,h2,h3,h5,h6,Sem.run_bind,p0,p1,Result.andThen_ok,run_equalIn_int w _ _ _ _ _ _ under_int]
theorem zvm{E:Env}{w:World}{a b:Int}{v:Value}(h:Rep E w (.agg [vi a,vi b]) v):v=.agg #[.int .i64 a,.int .i64 b]:=by
 cases h with
 | agg xs vs hl h =>obtain⟨x,y,rfl⟩:∃x y,vs=[x,y]:=z00 hl.symm;have h1:=(h 0 _ x rfl rfl).val_eq;have h2:=(h 1 _ y rfl rfl).val_eq;rw [h1,h2]
theorem z27{s:AS}{N d:Nat}{x y:Operand}{t' ty:TypeId}{pos:String}{af:Array Edge}{g:Option (Nat×Bool)}{a b:Int}(hd:d<N)(hx:ev s x=some (.agg [vi a,vi b]))(hy:ev s y=some (.agg [vi a,vi b])) :
  AOp (cx G) N ⟨some d,.binOp .neq 33 x y t',ty,pos,af,g⟩ (rds x++rds y) s [(2*d,.av (vb false))] :=
 zau hd λw0 E s' a w hR hr=>by have e1:=zvm (hr.ev (zat hR (λ_ h=>by simp [h]) hx));have e2:=zvm (hr.ev (zat hR (λ_ h=>by simp [h]) hy));refine⟨.bool false,?_,.val _,by simp [AV.ids]⟩;have hP:(cx G).P=Tryz.prog:=rfl;simp [execOp,e1,e2,eqGuard,binOp,z4g,hP]
theorem zvn(a b:Int):za3 (.agg #[.int .i64 a,.int .i64 b]):=.agg _ λv hv=>by simp at hv;rcases hv with rfl|rfl<;>constructor
theorem z1y{s:AS}{d:Option Nat}{x y:Operand}{t' ty:TypeId}{pos:String}{af:Array Edge}{g:Option (Nat×Bool)}{a b:Int}{R:List Nat}(hx:ev s x=some (.agg [vi a,vi b]))(hy:ev s y=some (.agg [vi a,vi b]))(hs:zly (rds x++rds y) R=true) :
  AFt (cx G) ⟨d,.binOp .neq 33 x y t',ty,pos,af,g⟩ R s:=λN w0 E s' a w hR hr=>by
 have hR:=agr hR hs
 have e1:=zvm (hr.ev ((zas λr h=>hR r oo).trans hx))
 have e2:=zvm (hr.ev ((zas λr h=>hR r oo).trans hy))
 have h1:za3 (a.eval x):=by rw [e1];exact zvn _ _
 have h2:za3 (a.eval y):=by rw [e2];exact zvn _ _
 refine zjc ?_
 rw [ft_bind];exact zoo _ _ _ _ _ _ h1 h2 (zwe _ _ _ _ h1 h2 λ_=>trivial)
end
end Go.Ab.J
