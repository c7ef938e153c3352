/- Pieces of a law about sales. Conditions: none. -/
import Derived.Test.YtfgciihkmemdlaaGreatDoorHPa
namespace Go.Ab
open Go Go.RowKit Go.Kp
open Go.ConcM (OsLater)
namespace J
open Go.Kp (FSt jdgF WpR OpsR)
open Go.Conc (base Leavers Past EvL AtEnd)
variable{P:Program}{Post:Value->World->Prop}
variable{N:Nat}{F0:FB}{s s':AS}{σ σ':FSt}{a a':Act}{w w':World}{E E':Env}{C:Cx}
theorem past0:Past (zja λ_=>False) 0 #[]:=by
 have e:(zja λ_=>False)=λ_=>False:=funext λl=>by cases l<;>rfl
 rw [e];exact Go.Conc.past_nil
theorem Top.run{f:FuncId}{args:List AV}{r:AV}(h:Top C f args r)(Post:Value->World->Prop)(imm:Nat->Prop)(w:World)(vs:List Value)(hlt:∀b,imm b->b<w.heap.size)(hn:∀b o,imm b->w.heap[b]?=some o->Near o)
  (hg:zb3 C.G (zca imm) w) (hr:yf1 (zca imm) w args vs) (hP:∀v w',(∀b,b<w.heap.size->w'.heap[b]?=w.heap[b]?)->w.heap.size<=w'.heap.size->OsLater w.os w'.os->w'.output=w.output->(∃imm',Rep (zca imm') w' r v)->Post v w') :
  ∃M last o w' t',runNT C.P (M+1) (Go.Conc.solo (Conc.G (Frame.enter C.P f vs.toArray .normal) []) w) #[]=(.ended o w',t')/\runN C.P M (Go.Conc.solo (Conc.G (Frame.enter C.P f vs.toArray .normal) []) w)=.next last/\step C.P last=.ended o w'/\Conc.Good C.P Post last o w' t':=by
 have hJ:=h Post imm ⟨λ_=>False,0⟩ w vs ⟨hlt,λ_ _ hF=>hF,kb6 _,λ_ hF=>hF.elim,hn⟩ hg hr λσ' v w' h1 h2=>hP v w' (λb hb=>h1.keep b hb λhF=>hF) h1.size h1.os h1.out ⟨_,h2⟩
 have h2:=hJ w.drawn #[Conc.G (Frame.enter C.P f vs.toArray .normal) []] none #[] (λ_=>0) rfl (Go.Conc.leavers_one _ _) past0 od
 exact h2
end J
end Go.Ab
