/- For every book and number the function SalesAllowed answers true, whatever other goroutines do, and leaves its arguments as they were. Conditions: those of the given row. -/
import Derived.Test.YtdhnjafnodoeiaaGreatDoorHAd
import Derived.AtR
import Derived.Calls
import Derived.ChangeKeysEq
import Derived.Conc.AppendWalk
import Derived.Conc.AtomicLaws2
import Derived.Conc.Beside
import Derived.Conc.ClockLaws
import Derived.Conc.CompanyDraw
import Derived.Conc.CompanyMem
import Derived.Conc.HoldsTime
import Derived.Conc.LockJoin
import Derived.Conc.MarkLaws
import Derived.Conc.MuStops
import Derived.Conc.Own
import Derived.Conc.SmallLaws
import Derived.Conc.Starve
import Derived.Conc.WgArith
import Derived.Great.BuildSlice
import Derived.Great.FillDense
import Derived.KernelRfl
import Derived.Laws.BitsLemmas
import Derived.Laws.CopyRow
import Derived.Laws.LoneSync
import Derived.Laws.MakeOwn
import Derived.Laws.OwnMore
import Derived.Laws.Sem
import Derived.Laws.StructEq
import Derived.LoopNIn
import Derived.MapKept
import Derived.Maps.AppendAt
import Derived.OwnWalkIn
import Derived.RangeFuncBound
import Derived.RangeFuncCalls
import Derived.RangeFuncLeaves
import Derived.RangeFuncNested
import Derived.RangeFuncRecord
import Derived.Shelf.Abstract
import Derived.TacticsInMore
import Derived.Test.YtdhnjafnodoeiaaGreatDoorProg
import Derived.WalkKit
namespace Go.Ab.J
open Go Go.Proofs Go.Kp
theorem yf5(ss:List Slip)(am:List Int)(m:SumR)(b:Bool):zd3 ss am { m with firm:=b }=zd3 ss am m:=rfl
theorem yf7(ms:List SumR)(xs:List Int):ybf ms xs=true↔∀x∈xs,(ms.getD x.toNat d5).firm=false:=by simp only [ybf,kb7,List.any_eq_false];exact⟨fun h x hx=>by simpa using h x hx,fun h x hx=>by simpa using h x hx⟩
theorem ygh{most:Int}{ss:List Slip}{ms:List SumR}{p:zd6}:agP most ss ms p=true↔okX ss ms p=true∧((zan ss ms (zc0 ss p)).length:Int)≤most:=by
 simp only [agP,zeh,okX,ka0,decide_eq_true_eq];constructor
 ·rintro⟨⟨a,b⟩,c⟩;exact⟨⟨c,b⟩,a⟩
 ·rintro⟨⟨a,b⟩,c⟩;exact⟨⟨c,b⟩,a⟩
def trM(ms:List SumR)(k:Nat):List SumR:=ms.set k { ms.getD k d5 with firm:=true }
theorem yie(ms:List SumR)(k:Nat):(trM ms k).length=ms.length:=by simp [trM]
theorem yif{ms:List SumR}{k j:Nat}(hk:k<ms.length):(trM ms k).getD j d5=if j=k then { ms.getD k d5 with firm:=true } else ms.getD j d5:=zew _ _ _ _ _ hk
theorem yil(ss:List Slip)(ms:List SumR)(k:Nat)(am:List Int)(hk:k<ms.length):zan ss (trM ms k) am=zan ss ms am:=by
 unfold zan zao;rw [yie];congr 1;refine List.filter_congr fun j _=>?_;show zd3 ss am ((trM ms k).getD j d5)=zd3 ss am (ms.getD j d5);rw [yif hk];split
 ·subst_vars;exact yf5 ss am _ _
 ·rfl
theorem yi8{ss:List Slip}{ms:List SumR}{k:Nat}{am:List Int}(hk:k<ms.length):ybf (trM ms k) (zan ss ms am)=(ybf ms (zan ss ms am)&&!decide ((k:Int)∈zan ss ms am)):=by
 rw [Bool.eq_iff_iff,ka0,yf7,yf7];simp only [kb7,decide_eq_false_iff_not];constructor
 ·intro h;have h2:(k:Int)∉zan ss ms am:=fun hm=>by
   have:=h _ hm;rw [kb9,yif hk,if_pos rfl] at this;cases this
  refine⟨fun x hx=>?_,h2⟩;have:=h x hx;rw [yif hk,if_neg] at this
  ·exact this
  ·intro e;have h0:=(zd9 ss ms am x hx).1;have:(k:Int)=x:=by omega
   exact h2 (this▸hx)
 ·rintro⟨h1,h2⟩ x hx;rw [yif hk,if_neg]
  ·exact h1 x hx
  ·intro e;have h0:=(zd9 ss ms am x hx).1;have:(k:Int)=x:=by omega
   exact h2 (this▸hx)
theorem yir{most:Int}{ss:List Slip}{ms:List SumR}{k:Nat}(hg:Good most ss ms)(hk:k<ms.length):Good most ss (trM ms k) where
 most:=hg.most
 nss:=hg.nss
 slip:=hg.slip
 fix:=hg.fix
 nms:=by rw [yie];exact hg.nms
 sum:=fun m hm=>by
  rcases kbh hm with h|rfl
  ·exact hg.sum m h
  ·have hmem:ms.getD k d5∈ms:=by
    rw [kai,kaa hk];exact kbf hk
   exact hg.sum (ms.getD k d5) hmem
theorem ag_tr{most:Int}{ss:List Slip}{ms:List SumR}{k:Nat}(hk:k<ms.length)(p:zd6):agP most ss (trM ms k) p=(agP most ss ms p&&!decide ((k:Int)∈zan ss ms (zc0 ss p))):=by unfold agP zeh;rw [yil ss ms k _ hk,yi8 hk];cases decide (((zan ss ms (zc0 ss p)).length:Int)≤most)<;>cases ybf ms (zan ss ms (zc0 ss p))<;>cases zdg ss (zc0 ss p)<;>cases decide ((k:Int)∈zan ss ms (zc0 ss p))<;>rfl
theorem yiw{most:Int}{ss:List Slip}{ms:List SumR}{k:Nat}(hk:k<ms.length):zah most ss (trM ms k)=(zah most ss ms).filter fun p=>!decide ((k:Int)∈zan ss ms (zc0 ss p)):=by unfold zah;rw [List.filter_filter];refine List.filter_congr fun p _=>?_;rw [ag_tr hk,Bool.and_comm]
theorem yid{α:Type}(q:α→Bool)(d:α)(l:List α):∀n,n≤l.length→zcg (fun i=>q (l.getD i d)) n=((l.take n).filter q).length
 | 0,_=>rfl
 | n+1,h=>by
   have ih:=yid q d l n (by omega);have e:l.getD n d=l[n]:=by rw [kai,kaa (by omega)];rfl
   rw [List.take_succ_eq_append_getElem (by omega),kch,kbx,←ih];simp only [zcg,e];cases hq:q l[n]<;>simp [hq]
theorem yij(most:Int)(ss:List Slip)(ms:List SumR)(k:Nat):zcg (zwn most ss ms k) (zah most ss ms).length=((zah most ss ms).filter fun p=>decide ((k:Int)∈zan ss ms (zc0 ss p))).length:=by have h:=yid (fun p=>decide ((k:Int)∈zan ss ms (zc0 ss p))) d12 (zah most ss ms) (zah most ss ms).length (kac _);rw [kdl] at h;exact h
theorem yih{α:Type}(q:α→Bool)(l:List α):(l.filter q).length+(l.filter fun x=>!q x).length=l.length:=by
 induction l with
 | nil=>rfl
 | cons x l ih=>cases h:q x<;>simp [h]<;>omega
theorem yiz{most:Int}{ss:List Slip}{ms:List SumR}{k:Nat}(hk:k<ms.length):zcg (zwn most ss ms k) (zah most ss ms).length+(zah most ss (trM ms k)).length=(zah most ss ms).length:=by rw [yij,yiw hk];exact yih _ _
theorem yi3{most:Int}{ss:List Slip}{ms:List SumR}{k:Nat}(hk:k<ms.length):zcg (zwn most ss (trM ms k) k) (zah most ss (trM ms k)).length=0:=by rw [yij,kbs,List.filter_eq_nil_iff];intro p hp;rw [yiw hk,kbw] at hp;rw [yil ss ms k _ hk];simpa using hp.2
theorem yii{most:Int}{ss:List Slip}{ms:List SumR}{k:Nat}(hg:Good most ss ms)(hk:k<ms.length):zge most ss ms k=if (zah most ss ms).length=0 then (0,9) else (zpe (zcg (zwn most ss ms k) (zah most ss ms).length) (zah most ss ms).length,0):=by
 have hc:=(za2 most ss ms).2 hg;have ho:zgc ms k=0:=by unfold zgc;rw [if_pos];simp;omega
 have hl:zbt most ss ms (zgc ms k)=if (zah most ss ms).length=0 then 9 else 0:=by unfold zbt;rw [ho];simp only [hc,ne_eq,not_true_eq_false,if_false,kbs]
 unfold zge;rw [hl];by_cases h:(zah most ss ms).length=0
 ·rw [if_pos h,if_pos h,if_pos (by decide)]
 ·rw [if_neg h,if_neg h,if_neg (by decide)]
theorem yiu{most most':Int}(ss:List Slip)(ms:List SumR)(h:most≤most'):(zah most ss ms).length≤(zah most' ss ms).length:=by unfold zah;rw [←List.countP_eq_length_filter,←List.countP_eq_length_filter];refine List.countP_mono_left fun p _ hp=>?_;obtain⟨h1,h2⟩:=ygh.1 hp;exact ygh.2 ⟨h1,Int.le_trans h2 h⟩
theorem yiv{most most':Int}{ss:List Slip}{ms:List SumR}(hg:Good most ss ms)(h:0≤most'∧most'≤2):Good most' ss ms:=⟨h,hg.nss,hg.slip,hg.fix,hg.nms,hg.sum⟩
section
variable{G:zbf}
theorem yh1{t:TypeId}(hu:Tryz.prog.underlying t=some (.int .i64))(xs:Array Value)(off:Nat)(v:Value)(h:xs[off]?=some v)(w:World):(part t xs off).run Tryz.prog w=.ok v w:=by simp [part,isAgg,run_underlying hu,h]
theorem yio{t:TypeId}(hu:Tryz.prog.underlying t=some .bool)(xs:Array Value)(off:Nat)(v:Value)(h:xs[off]?=some v)(w:World):(part t xs off).run Tryz.prog w=.ok v w:=by simp [part,isAgg,run_underlying hu,h]
theorem yi0:(Tryz.prog.info? 30).map (·.size)=some 2:=by kernel_rfl
theorem yib(xs ys:Array Value)(off:Nat)(h:xs.extract off (off+2)=ys)(w:World):(part 30 xs off).run Tryz.prog w=.ok (.agg ys) w:=by
 obtain⟨i,hi,hs⟩:∃i,Tryz.prog.info? 30=some i∧i.size=2:=by
  have:=yi0;cases h:Tryz.prog.info? 30 with
  | none=>rw [h] at this;cases this
  | some i=>rw [h] at this;exact⟨i,rfl,by simpa using this⟩
 simp [part,isAgg,run_underlying z32,sizeOf,typeInfo,hi,hs,go_sem,h]
theorem yic(d:Nat)(a b:Int)(w:World):(Op.equalIn (d+2) 30 (.agg #[.int .i64 a,.int .i64 b]) (.agg #[.int .i64 a,.int .i64 b])).run Tryz.prog w=.ok true w:=by
 rw [run_equalIn_struct w (d+1) _ _ _ z32 z4d];have hf:=z1w;generalize (Tryz.prog.fieldsOf 30).toList=fs at hf;obtain⟨f,g,rfl⟩:∃f g,fs=[f,g]:=z00 (by have:=congrArg List.length hf;simpa using this);simp only [kbq,List.map_nil,kc8,Prod.mk.injEq,and_true] at hf;obtain⟨⟨h1,h2,h3⟩,h4,h5,h6⟩:=hf;have hn : f.name ≠ "_" := by rw [h1]; decide
 have hm : g.name ≠ "_" := by rw [h4]; decide
 have p0:∀w,(part 3 #[Value.int .i64 a,Value.int .i64 b] 0).run Tryz.prog w=.ok (.int .i64 a) w:=fun w=>zdu _ _ _ rfl w;have p1:∀w,(part 3 #[Value.int .i64 a,Value.int .i64 b] 1).run Tryz.prog w=.ok (.int .i64 b) w:=fun w=>zdu _ _ _ rfl w;simp [Op.eqFields,if_pos hn,if_pos hm,h2,h3,h5,h6,Sem.run_bind,p0,p1,Result.andThen_ok,run_equalIn_int w _ _ _ _ _ _ under_int]
theorem yip : (Tryz.prog.fieldsOf 54).toList.map (fun f => (f.name, f.type, f.offset)) = [("Kind", 52, 0), ("Dept", 3, 1), ("Clerk", 3, 2), ("For", 3, 3), ("Amount", 30, 4), ("Signed", 34, 6)] := by kernel_rfl
theorem yit : (Tryz.prog.fieldsOf 61).toList.map (fun f => (f.name, f.type, f.offset)) = [("Kind", 26, 0), ("A", 3, 1), ("Many", 30, 2), ("Firm", 4, 4)] := by kernel_rfl
theorem yin:Tryz.prog.stoodInHeld 54=false:=by kernel_rfl
theorem yis:Tryz.prog.stoodInHeld 61=false:=by kernel_rfl
theorem yh4:Tryz.prog.eqGuardType Tryz.prog.depth 54=false:=by kernel_rfl
theorem yh7:Tryz.prog.eqGuardType Tryz.prog.depth 61=false:=by kernel_rfl
theorem yi1{α:Type}:∀{l:List α},l.length=4→∃a b c d,l=[a,b,c,d]
 | [a,b,c,d],_=>⟨a,b,c,d,rfl⟩
theorem yi5{α:Type}:∀{l:List α},l.length=6→∃a b c d e f,l=[a,b,c,d,e,f]
 | [a,b,c,d,e,f],_=>⟨a,b,c,d,e,f,rfl⟩
theorem yh3(s:Slip)(w:World):(Op.equal 54 (.agg (zq9 s).toArray) (.agg (zq9 s).toArray)).run Tryz.prog w=.ok true w:=by
 show(Op.equalIn (9999+1) _ _ _).run _ _=_;rw [run_equalIn_struct w 9999 _ _ _ ycw yin];have hf:=yip;generalize (Tryz.prog.fieldsOf 54).toList=fs at hf;obtain⟨f0,f1,f2,f3,f4,f5,rfl⟩:∃a b c d e f,fs=[a,b,c,d,e,f]:=yi5 (by have:=congrArg List.length hf;simpa using this);simp only [kbq,List.map_nil,kc8,Prod.mk.injEq,and_true] at hf
 obtain⟨⟨a0,b0,c0⟩,⟨a1,b1,c1⟩,⟨a2,b2,c2⟩,⟨a3,b3,c3⟩,⟨a4,b4,c4⟩,a5,b5,c5⟩:=hf;have n0 : f0.name ≠ "_" := by rw [a0]; decide
 have n1 : f1.name ≠ "_" := by rw [a1]; decide
 have n2 : f2.name ≠ "_" := by rw [a2]; decide
 have n3 : f3.name ≠ "_" := by rw [a3]; decide
 have n4 : f4.name ≠ "_" := by rw [a4]; decide
 have n5 : f5.name ≠ "_" := by rw [a5]; decide
 have p0:∀w,(part 52 (zq9 s).toArray 0).run Tryz.prog w=.ok (.int .i64 s.kind) w:=fun w=>yh1 ycy _ _ _ rfl w;have p1:∀w,(part 3 (zq9 s).toArray 1).run Tryz.prog w=.ok (.int .i64 s.dept) w:=fun w=>yh1 zjd _ _ _ rfl w;have p2:∀w,(part 3 (zq9 s).toArray 2).run Tryz.prog w=.ok (.int .i64 s.clerk) w:=fun w=>yh1 zjd _ _ _ rfl w
 have p3:∀w,(part 3 (zq9 s).toArray 3).run Tryz.prog w=.ok (.int .i64 s.for_) w:=fun w=>yh1 zjd _ _ _ rfl w;have p4:∀w,(part 30 (zq9 s).toArray 4).run Tryz.prog w=.ok (.agg #[.int .i64 s.lo,.int .i64 s.hi]) w:=fun w=>yib _ _ _ rfl w;have p5:∀w,(part 34 (zq9 s).toArray 6).run Tryz.prog w=.ok (.int .i64 s.signed) w:=fun w=>yh1 yct _ _ _ rfl w;have e4:=fun w=>yic 9997 s.lo s.hi w
 simp only [Nat.reduceAdd] at e4;simp [Op.eqFields,if_pos n0,if_pos n1,if_pos n2,if_pos n3,if_pos n4,if_pos n5,b0,c0,b1,c1,b2,c2,b3,c3,b4,c4,b5,c5,Sem.run_bind,p0,p1,p2,p3,p4,p5,e4,Result.andThen_ok,run_equalIn_int w _ _ _ _ _ _ zjd,run_equalIn_int w _ _ _ _ _ _ ycy,run_equalIn_int w _ _ _ _ _ _ yct]
theorem yh6(m:SumR)(w:World):(Op.equal 61 (.agg (z7m m).toArray) (.agg (z7m m).toArray)).run Tryz.prog w=.ok true w:=by
 show(Op.equalIn (9999+1) _ _ _).run _ _=_;rw [run_equalIn_struct w 9999 _ _ _ u_sum yis];have hf:=yit;generalize (Tryz.prog.fieldsOf 61).toList=fs at hf;obtain⟨f0,f1,f2,f3,rfl⟩:∃a b c d,fs=[a,b,c,d]:=yi1 (by have:=congrArg List.length hf;simpa using this);simp only [kbq,List.map_nil,kc8,Prod.mk.injEq,and_true] at hf;obtain⟨⟨a0,b0,c0⟩,⟨a1,b1,c1⟩,⟨a2,b2,c2⟩,a3,b3,c3⟩:=hf
 have n0 : f0.name ≠ "_" := by rw [a0]; decide
 have n1 : f1.name ≠ "_" := by rw [a1]; decide
 have n2 : f2.name ≠ "_" := by rw [a2]; decide
 have n3 : f3.name ≠ "_" := by rw [a3]; decide
 have p0:∀w,(part 26 (z7m m).toArray 0).run Tryz.prog w=.ok (.int .i64 m.kind) w:=fun w=>yh1 u_sk _ _ _ rfl w;have p1:∀w,(part 3 (z7m m).toArray 1).run Tryz.prog w=.ok (.int .i64 m.a) w:=fun w=>yh1 zjd _ _ _ rfl w;have p2:∀w,(part 30 (z7m m).toArray 2).run Tryz.prog w=.ok (.agg #[.int .i64 m.lo,.int .i64 m.hi]) w:=fun w=>yib _ _ _ rfl w
 have p3:∀w,(part 4 (z7m m).toArray 4).run Tryz.prog w=.ok (.bool m.firm) w:=fun w=>yio z7g _ _ _ rfl w;have e4:=fun w=>yic 9997 m.lo m.hi w;simp only [Nat.reduceAdd] at e4
 simp [Op.eqFields,if_pos n0,if_pos n1,if_pos n2,if_pos n3,b0,c0,b1,c1,b2,c2,b3,c3,Sem.run_bind,p0,p1,p2,p3,e4,Result.andThen_ok,run_equalIn_int w _ _ _ _ _ _ zjd,run_equalIn_int w _ _ _ _ _ _ u_sk,run_equalIn_bool' w _ _ _ _ z7g]
theorem yia{E:Env}{w:World}(vs:List Value){v:Value}(h:Rep E w (.agg (vs.map .val)) v):v=.agg vs.toArray:=by
 cases h with
 | agg xs us hl h =>
   congr 1;have e:us=vs:=by
    refine kc0 fun i=>?_;rcases kae i vs.length with hi|hi
    ·have h1:(vs.map AV.val)[i]?=some (.val vs[i]):=by simp [hi]
     have hu:i<us.length:=by rw [←hl];simpa using hi
     have:=(h i _ us[i] h1 (kaa hu)).val_eq;rw [kaa hu,kaa hi,this]
    ·rw [kay hi,kay (by rw [←hl];simpa using hi)]
   rw [e]
theorem yh2(s:Slip):∀v∈zq9 s,za3 v:=fun v hv=>by simp only [zq9,kat,kb2,or_false] at hv;rcases hv with rfl|rfl|rfl|rfl|rfl|rfl|rfl<;>constructor
theorem yh5(m:SumR):∀v∈z7m m,za3 v:=fun v hv=>by simp only [z7m,kat,kb2,or_false] at hv;rcases hv with rfl|rfl|rfl|rfl|rfl<;>constructor
section
variable{s:AS}{N:Nat}{x y:Operand}{T t' ty:TypeId}{pos:String}{af:Array Edge}{g:Option (Nat×Bool)}{vs:List Value}
theorem yh9{d:Nat}(heq:∀w,(Op.equal T (.agg vs.toArray) (.agg vs.toArray)).run Tryz.prog w=.ok true w)(hgd:Tryz.prog.eqGuardType Tryz.prog.depth T=false)(hd:d<N)(hx:ev s x=some (.agg (vs.map .val)))(hy:ev s y=some (.agg (vs.map .val))) :
  AOp (cx G) N ⟨some d,.binOp .neq T x y t',ty,pos,af,g⟩ (rds x++rds y) s [(2*d,.av (vb false))] :=
 zau hd fun w0 E s' a w hR hr=>by have e1:=yia vs (hr.ev (zat hR (fun _ h=>by simp [h]) hx));have e2:=yia vs (hr.ev (zat hR (fun _ h=>by simp [h]) hy));refine⟨.bool false,?_,.val _,by simp [AV.ids]⟩;have hP:(cx G).P=Tryz.prog:=rfl;simp [execOp,e1,e2,eqGuard,binOp,heq,hP,hgd]
theorem yh8{d:Option Nat}{R:List Nat}(hpl:∀v∈vs,za3 v)(hx:ev s x=some (.agg (vs.map .val)))(hy:ev s y=some (.agg (vs.map .val)))(hs:zly (rds x++rds y) R=true) :
  AFt (cx G) ⟨d,.binOp .neq T x y t',ty,pos,af,g⟩ R s:=fun N w0 E s' a w hR hr=>by
 have hR:=agr hR hs
 have e1:=yia vs (hr.ev ((zas fun r h=>hR r (by simp [h])).trans hx))
 have e2:=yia vs (hr.ev ((zas fun r h=>hR r (by simp [h])).trans hy))
 have h0:za3 (.agg vs.toArray):=.agg _ fun v hv=>hpl v (by simpa using hv)
 have h1:za3 (a.eval x):=by rw [e1];exact h0
 have h2:za3 (a.eval y):=by rw [e2];exact h0
 refine zjc ?_
 rw [ft_bind];exact zoo _ _ _ _ _ _ h1 h2 (zwe _ _ _ _ h1 h2 fun _=>trivial)
end
end
section
variable{G:zbf}{u:Nat→ByteArray}
theorem yi6{E:Env}{w:World}{most:Int}{v:Value}(h:Rep E w (.agg [vi most,.val (.slice none 0 0),.val (.slice none 0 0)]) v):Rep E w (.agg [vi most,.sl 7 [],.sl 5 []]) v:=by
 cases h with
 | agg xs us hl h =>
   refine .agg _ us hl fun i x v hx hv=>?_
   match i with
   | 0=>exact h 0 x v hx hv
   | 1 =>
     obtain rfl:=(h 1 _ v rfl hv).val_eq;obtain rfl:AV.sl 7 []=x:=by simpa using hx
     exact .nil 7
   | 2 =>
     obtain rfl:=(h 2 _ v rfl hv).val_eq;obtain rfl:AV.sl 5 []=x:=by simpa using hx
     exact .nil 5
   | i+3=>simp at hx
attribute [local irreducible] AOp AW ADr AFn ze1 AFt AOpJ
set_option maxRecDepth 20000
set_option maxHeartbeats 8000000
theorem yiy{most:Int}{ss:List Slip}{ms:List SumR}{k:Nat}{m:SumR}(hm:ms[k]?=some m):zu1 (cx G) 94 ([]++[.ptr 6 0]++[.elt 1 [[vi k]] 0 0]) (bkM 6 most ss ms) (.tup []) (bkM 6 most ss (ms.set k { m with firm:=true })) [2001,2002]:=by
 refine zeu [(6,0)] Tryz.func94 rfl Tryz.ntmps94 rfl rfl rfl fun Q hQ=>?_;have hrow:(ms.map SumR.row)[k]?=some m.row:=by simp [hm]
 have hil:k<(ms.map SumR.row).length:=by simpa using (kab.1 hm).1
 have hX:(ms.map SumR.row).set k (spl m.row (0+4) [vb true])=(ms.set k { m with firm:=true }).map SumR.row:=by rw [List.map_set];rfl
 (repeat' (first  |refine sy ?_|refine aS fun P9 h9=>?_|refine aB fun P9 _ _ _ _=>?_|refine w0 ?_|(refine s2 ?_ ?_<;>intro h7<;>try omega)));exact hQ.go _ _ _ zcz (.inl rfl) rfl ⟨rfl,rfl,congrArg (fun z=>some (za7.buf 5 61 z)) hX,trivial⟩ (fun p hp=>by cases hp with|head=>rfl|tail _ h=>cases h)
def yig(most:Int)(ss:List Slip)(ms:List SumR)(sum:Int):Int:=if zak most ss ms≠0 then zak most ss ms else if 0≤sum∧sum≤(ms.length:Int)-1 then 0 else 6
def trL(most:Int)(ss:List Slip)(ms:List SumR)(sum:Int):Int:=if yig most ss ms sum≠0 then yig most ss ms sum else zbt most ss (trM ms sum.toNat) 0
def trV(most:Int)(ss:List Slip)(ms:List SumR)(sum:Int):AV:=if trL most ss ms sum=0 then bk most ss (trM ms sum.toNat) else bk 0 [] []
theorem cyh0{P G:Prop}(n:P)(h:Go.Kp.Wr P→G:=by(intro n;first|((with_reducible apply kC);first|exact gB ⟨_,zbh _ _ _ hn hm,.mk rfl n.p⟩|exact gB ⟨_,z1a _ _ _ _ hm,.mk rfl n.p⟩|exact gB ⟨_,hT,.mk rfl n.p⟩|exact gK n.p|exact gS n.p)|exact⟨_,zbh _ _ _ hn hm,n.p⟩|exact⟨_,z1a _ _ _ _ hm,n.p⟩|exact⟨_,hT,n.p⟩|exact sk n.p|exact ap n.p)):G:=h ⟨n⟩
theorem yix(most:Int)(ss:List Slip)(ms:List SumR)(sum:Int)(hn:ss.length≤20)(hm:ms.length≤20) :
  AFn (cx (zch u)) 30 [bk most ss ms,vi sum] (.tup [trV most ss ms sum,vi (trL most ss ms sum)]):=by
 have hr:(AV.tup [trV most ss ms sum,vi (trL most ss ms sum)]).ids=[]:=by unfold trV;split<;>rfl
 refine zg1 Tryz.func30 rfl Tryz.ntmps30 rfl rfl rfl (fun Q hQ=>?_) hr
 by_cases hc:zak most ss ms=0
 ·have hdc:decide (zak most ss ms=0)=true:=by simpa using hc
  by_cases hf:0≤sum∧sum≤(ms.length:Int)-1
  ·have hdf:decide (0≤sum∧sum≤(ms.length:Int)-1)=true:=decide_eq_true hf;obtain⟨k,rfl⟩:∃k:Nat,sum=(k:Int):=⟨sum.toNat,by omega⟩;obtain⟨m,hs⟩:∃m,ms[k]?=some m:=⟨_,kaa (by omega)⟩;have hg:ms.getD k d5=m:=by simp [hs]
   have hO:yig most ss ms k=0:=by rw [yig,if_neg (by simp [hc]),if_pos hf]
   have hS:trM ms k=ms.set k { m with firm:=true }:=by rw [trM,hg]
   have hm2:(ms.set k { m with firm:=true }).length≤20:=by simpa using hm
   have hL:trL most ss ms k=zbt most ss (ms.set k { m with firm:=true }) 0:=by rw [trL,if_neg (by simp [hO]),kb9,hS]
   have hT:=yc2 (u:=u) (caps:=[.elt 1 [[vi k]] 0 0]) rfl hn hm hn hm2 (yiy (G:=zch u) (most:=most) (ss:=ss) hs);by_cases hl:zbt most ss (ms.set k { m with firm:=true }) 0=0
   ·have hV:trV most ss ms k=bk most ss (ms.set k { m with firm:=true }):=by rw [trV,hL,if_pos hl,kb9,hS]
    rw [hL,hV] at hQ;rw [ztd,if_pos hl] at hT;(repeat' (first|refine zbx (zcj 3 3 rfl rfl rfl (by decide)) ?_ |refine sy ?_|refine aS fun P9 h9=>?_|refine aB fun P9 _ _ _ _=>?_|refine cyh0 ?_|(refine s2 ?_ ?_<;>intro h7<;>try omega)));exact hQ.go _ _ _ zcz (.inr rfl) rfl
   ·have hV:trV most ss ms k=bk 0 [] []:=by rw [trV,hL,if_neg hl]
    rw [hL,hV] at hQ;rw [ztd,if_neg hl] at hT;(repeat' (first|refine zbx (zcj 3 3 rfl rfl rfl (by decide)) ?_ |refine sy ?_|refine aS fun P9 h9=>?_|refine aB fun P9 _ _ _ _=>?_|refine cyh0 ?_|(refine s2 ?_ ?_<;>intro h7<;>try omega)));exact hQ.go _ _ _ zcz (.inr rfl) rfl
  ·have hdf:decide (0≤sum∧sum≤(ms.length:Int)-1)=false:=decide_eq_false hf;have hL:trL most ss ms sum=6:=by simp [trL,yig,hc,hf]
   have hV:trV most ss ms sum=bk 0 [] []:=by rw [trV,if_neg (by rw [hL];decide)]
   rw [hL,hV] at hQ;(repeat' (first|refine zbx (zcj 3 3 rfl rfl rfl (by decide)) ?_ |refine sy ?_|refine aS fun P9 h9=>?_|refine aB fun P9 _ _ _ _=>?_|refine cyh0 ?_|(refine s2 ?_ ?_<;>intro h7<;>try omega)));exact hQ.go _ _ _ ((zdn 4 1 3001 7 54 rfl rfl rfl).trans (zdn 4 2 3002 5 61 rfl rfl rfl)) (.inr rfl) rfl
 ·have hdc:decide (zak most ss ms=0)=false:=by simpa using hc
  have hL:trL most ss ms sum=zak most ss ms:=by simp [trL,yig,hc]
  have hV:trV most ss ms sum=bk 0 [] []:=by rw [trV,if_neg (by rw [hL];exact hc)]
  rw [hL,hV] at hQ;(repeat' (first|refine zbx (zcj 3 3 rfl rfl rfl (by decide)) ?_ |refine sy ?_|refine aS fun P9 h9=>?_|refine aB fun P9 _ _ _ _=>?_|refine cyh0 ?_|(refine s2 ?_ ?_<;>intro h7<;>try omega)));exact hQ.go _ _ _ ((zdn 4 1 3001 7 54 rfl rfl rfl).trans (zdn 4 2 3002 5 61 rfl rfl rfl)) (.inr rfl) rfl
theorem yi2(most:Int)(ss:List Slip)(ms:List SumR)(hn:ss.length≤20)(hm:ms.length≤20):AFn (cx G) 31 [bk most ss ms,bk most ss ms] (vb true):=by
 refine zag Tryz.func31 rfl Tryz.ntmps31 rfl rfl rfl ?_ rfl;refine zab fun Q hQ=>?_;have hb1:(!decide (most=most))=false:=by simp
 have hb2:(!decide (((ss.map Slip.row).length:Int)=((ss.map Slip.row).length:Int)))=false:=by simp
 have hb3:(!decide (((ms.map SumR.row).length:Int)=((ms.map SumR.row).length:Int)))=false:=by simp
 have hb4:decide (most=most)=true:=by simp
 have hb5:decide (((ss.map Slip.row).length:Int)=((ss.map Slip.row).length:Int))=true:=by simp
 have hb6:decide (((ms.map SumR.row).length:Int)=((ms.map SumR.row).length:Int))=true:=by simp
 have z:Slip:=d7;have z2:SumR:=d5
 (repeat' (first|refine g1 ?_ (by first|exact gdN rfl|exact gdT rfl rfl rfl) ⟨yh9 (yh3 z) yh4 (by decide) rfl rfl,yh8 (yh2 z) rfl rfl rfl⟩|refine g1 ?_ (by first|exact gdN rfl|exact gdT rfl rfl rfl) ⟨yh9 (yh6 z2) yh7 (by decide) rfl rfl,yh8 (yh5 z2) rfl rfl rfl⟩ |refine sy ?_|refine aS fun P9 h9=>?_|refine aB fun P9 _ _ _ _=>?_|refine w0 ?_|(refine s2 ?_ ?_<;>intro h7<;>try omega)))
 refine zam ss.length (fun i=>[(2*2,.av (.ptr 2 0)),(2*2+1,.cells 25 [vi most,.sl 7 (ss.map Slip.row),.sl 5 (ms.map SumR.row)]),(2*3,.av (.ptr 3 0)),(2*3+1,.cells 25 [vi most,.sl 7 (ss.map Slip.row),.sl 5 (ms.map SumR.row)]),(2*5,.av (vi i))]) ?_ ?_
 ·exact si
 ·intro i hi;rcases kae i ss.length with hlt|hge
  ·clear z;obtain⟨z,hz⟩:∃z,ss[i]?=some z:=⟨_,kaa hlt⟩;have hrow:(ss.map Slip.row)[i]?=some z.row:=by simp [hz]
   have hil:i<(ss.map Slip.row).length:=by simpa using hlt
   have hd:decide ((i:Int)<((ss.map Slip.row).length:Int))=true:=by simp;omega
   have hi1:vi ((i+1:Nat):Int)=vi ((i:Int)+1):=by simp
   (repeat' (first|refine g1 ?_ (by first|exact gdN rfl|exact gdT rfl rfl rfl) ⟨yh9 (yh3 z) yh4 (by decide) rfl rfl,yh8 (yh2 z) rfl rfl rfl⟩|refine g1 ?_ (by first|exact gdN rfl|exact gdT rfl rfl rfl) ⟨yh9 (yh6 z2) yh7 (by decide) rfl rfl,yh8 (yh5 z2) rfl rfl rfl⟩ |refine sy ?_|refine aS fun P9 h9=>?_|refine aB fun P9 _ _ _ _=>?_|refine w0 ?_|(refine s2 ?_ ?_<;>intro h7<;>try omega)))
   refine⟨hlt,?_⟩;exact si
  ·have he:i=ss.length:=by omega
   subst he;have hd:decide ((ss.length:Int)<((ss.map Slip.row).length:Int))=false:=by simp
   (repeat' (first|refine g1 ?_ (by first|exact gdN rfl|exact gdT rfl rfl rfl) ⟨yh9 (yh3 z) yh4 (by decide) rfl rfl,yh8 (yh2 z) rfl rfl rfl⟩|refine g1 ?_ (by first|exact gdN rfl|exact gdT rfl rfl rfl) ⟨yh9 (yh6 z2) yh7 (by decide) rfl rfl,yh8 (yh5 z2) rfl rfl rfl⟩ |refine sy ?_|refine aS fun P9 h9=>?_|refine aB fun P9 _ _ _ _=>?_|refine w0 ?_|(refine s2 ?_ ?_<;>intro h7<;>try omega)))
   refine zam ms.length (fun i=>[(2*2,.av (.ptr 2 0)),(2*2+1,.cells 25 [vi most,.sl 7 (ss.map Slip.row),.sl 5 (ms.map SumR.row)]),(2*3,.av (.ptr 3 0)),(2*3+1,.cells 25 [vi most,.sl 7 (ss.map Slip.row),.sl 5 (ms.map SumR.row)]),(2*6,.av (vi i))]) ?_ ?_
   ·exact si
   ·intro i hi;rcases kae i ms.length with hlt|hge
    ·clear z2;obtain⟨z2,hz⟩:∃z,ms[i]?=some z:=⟨_,kaa hlt⟩;have hrow:(ms.map SumR.row)[i]?=some z2.row:=by simp [hz]
     have hil:i<(ms.map SumR.row).length:=by simpa using hlt
     have hd:decide ((i:Int)<((ms.map SumR.row).length:Int))=true:=by simp;omega
     have hi1:vi ((i+1:Nat):Int)=vi ((i:Int)+1):=by simp
     (repeat' (first|refine g1 ?_ (by first|exact gdN rfl|exact gdT rfl rfl rfl) ⟨yh9 (yh3 z) yh4 (by decide) rfl rfl,yh8 (yh2 z) rfl rfl rfl⟩|refine g1 ?_ (by first|exact gdN rfl|exact gdT rfl rfl rfl) ⟨yh9 (yh6 z2) yh7 (by decide) rfl rfl,yh8 (yh5 z2) rfl rfl rfl⟩ |refine sy ?_|refine aS fun P9 h9=>?_|refine aB fun P9 _ _ _ _=>?_|refine w0 ?_|(refine s2 ?_ ?_<;>intro h7<;>try omega)))
     refine⟨hlt,?_⟩;exact si
    ·have he:i=ms.length:=by omega
     subst he;have hd:decide ((ms.length:Int)<((ms.map SumR.row).length:Int))=false:=by simp
     (repeat' (first|refine g1 ?_ (by first|exact gdN rfl|exact gdT rfl rfl rfl) ⟨yh9 (yh3 z) yh4 (by decide) rfl rfl,yh8 (yh2 z) rfl rfl rfl⟩|refine g1 ?_ (by first|exact gdN rfl|exact gdT rfl rfl rfl) ⟨yh9 (yh6 z2) yh7 (by decide) rfl rfl,yh8 (yh5 z2) rfl rfl rfl⟩ |refine sy ?_|refine aS fun P9 h9=>?_|refine aB fun P9 _ _ _ _=>?_|refine w0 ?_|(refine s2 ?_ ?_<;>intro h7<;>try omega)))
     refine fe ?_;rfl
theorem yiq(most:Int)(ss:List Slip)(ms:List SumR)(k:Nat)(hm:ms.length≤20)(hk:k<ms.length):AFn (cx G) 32 [bk most ss ms,vi k] (bk most ss (trM ms k)):=by
 refine zag Tryz.func32 rfl Tryz.ntmps32 rfl rfl rfl ?_ rfl;refine zab fun Q hQ=>?_;obtain⟨m,hs⟩:∃m,ms[k]?=some m:=⟨_,kaa hk⟩;have hrow:(ms.map SumR.row)[k]?=some m.row:=by simp [hs]
 have hil:k<(ms.map SumR.row).length:=by simpa using hk
 have hb:(ms.map SumR.row).length≤1000000000:=by simp;omega
 have hg:ms.getD k d5=m:=by simp [hs]
 have hX:(ms.map SumR.row).set k (spl m.row (0+4) [vb true])=(trM ms k).map SumR.row:=by rw [trM,hg,List.map_set];rfl
 (repeat' (first  |refine sy ?_|refine aS fun P9 h9=>?_|refine aB fun P9 _ _ _ _=>?_|refine w0 ?_|(refine s2 ?_ ?_<;>intro h7<;>try omega)));refine fe ?_;unfold bk;rw [←hX];rfl
end
end Go.Ab.J
namespace Go.Ab.J
open Go
theorem rNil{E:Env}{w:World}:yf1 E w [] []:=yf1.nil _ _
end Go.Ab.J
