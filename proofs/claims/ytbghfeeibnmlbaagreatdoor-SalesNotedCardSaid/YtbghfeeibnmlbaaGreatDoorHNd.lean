/- Pieces of a law about sales. Conditions: none. -/
import Derived.Test.YtbghfeeibnmlbaaGreatDoorHNc
import Derived.AtR
import Derived.Calls
import Derived.ChangeKeysEq
import Derived.Conc.AppendWalk
import Derived.Conc.AtomicLaws2
import Derived.Conc.Beside
import Derived.Conc.ClockLaws
import Derived.Conc.CompanyDraw
import Derived.Conc.CompanyMem
import Derived.Conc.HoldsTime
import Derived.Conc.LockJoin
import Derived.Conc.MarkLaws
import Derived.Conc.MuSpec
import Derived.Conc.MuStops
import Derived.Conc.Own
import Derived.Conc.SmallLaws
import Derived.Conc.Starve
import Derived.Conc.WgArith
import Derived.Great.BuildSlice
import Derived.Great.FillDense
import Derived.KernelRfl
import Derived.Laws.Bits64b
import Derived.Laws.BitsLemmas
import Derived.Laws.CopyRow
import Derived.Laws.LoneSync
import Derived.Laws.MakeOwn
import Derived.Laws.OwnMore
import Derived.Laws.Sem
import Derived.Laws.Shifts
import Derived.Laws.StructEq
import Derived.LoopNIn
import Derived.MapKept
import Derived.Maps.AppendAt
import Derived.OwnWalkIn
import Derived.RangeFuncBound
import Derived.RangeFuncCalls
import Derived.RangeFuncLeaves
import Derived.RangeFuncNested
import Derived.RangeFuncRecord
import Derived.Shelf.Abstract
import Derived.Sort.AssemblyPlain
import Derived.Sort.LotD4
import Derived.Sort.LotD5
import Derived.TacticsInMore
import Derived.Test.YtbghfeeibnmlbaaGreatDoorProg
import Derived.WalkKit
namespace Go.Ab.J
open Go Go.Proofs Go.Kp
section
variable{G:zbf}{u:Nat→ByteArray}
attribute [local irreducible] AOp AW ADr AFn ze1 AFt AOpJ
set_option maxRecDepth 20000
set_option maxHeartbeats 8000000
theorem ykq{most:Int}{ss:List Slip}{ms:List SumR}{own:Int}(h:zbt most ss ms 0=0)(ho:own=0):zbt most ss ms own=0:=by rw [ho];exact h
theorem ylp{most:Int}{ss:List Slip}{ms:List SumR}(h:zbt most ss ms 0=0):zak most ss ms=0:=by obtain⟨hg,_,_⟩:=zme h;exact(za2 most ss ms).2 hg
structure ynu(most:Int)(ss:List Slip)(ms:List SumR)(most':Int)(ss':List Slip)(ms':List SumR)(slip kind:Int):Prop where
 l1:zbt most ss ms 0=0
 l2:zbt most' ss' ms' 0=0
 len:ss.length≤ss'.length
 num:(zah most' ss' ms').length≤(zah most ss ms).length
 lo:(zyr most ss ms (yki kind) (ykj kind)).1.1≤(zyr most' ss' ms' (yki kind) (ykj kind)).1.1
 hi:(zyr most' ss' ms' (yki kind) (ykj kind)).1.2≤(zyr most ss ms (yki kind) (ykj kind)).1.2
 lh:(zyr most' ss' ms' (yki kind) (ykj kind)).1.1≤(zyr most' ss' ms' (yki kind) (ykj kind)).1.2
 am:∀x∈ym3 most' ss' ms' (slip % (ss.length:Int)),x∈ym3 most ss ms (slip % (ss.length:Int))
theorem ymt{most:Int}{ss:List Slip}{ms:List SumR}(hg:Good most ss ms)(k:Int):(ym3 most ss ms k).length≤100000:=by
 unfold ym3;split
 ·have h1:=ymd (ym6 (ybr most ss ms k.toNat)) (ym6 (ybr most ss ms k.toNat)).length;have h2:=(ylc (ybr most ss ms k.toNat)).2.2;have h3:(ybr most ss ms k.toNat).length=(zah most ss ms).length:=by simp [ybr]
  have h4:=zfd hg;show(cpU _ _).length≤_;omega
 ·simp
theorem cyv0{P G:Prop}(n:P)(h:Wr P→G:=by(intro n;first|((with_reducible apply kC);first|exact gB ⟨_,hw,.mk rfl n.p⟩|exact gB ⟨_,hh1,.mk rfl n.p⟩|exact gB ⟨_,hh2,.mk rfl n.p⟩|exact gB ⟨_,hs1,.mk rfl n.p⟩|exact gB ⟨_,hs2,.mk rfl n.p⟩|exact gB ⟨_,zv8 _ _ _,.mk rfl n.p⟩|exact gB ⟨_,ha1,.mk rfl n.p⟩|exact gB ⟨_,ha2,.mk rfl n.p⟩|exact gB ⟨_,hha,.mk rfl n.p⟩|exact gK n.p|exact gS n.p)|exact⟨_,hw,n.p⟩|exact⟨_,hh1,n.p⟩|exact⟨_,hh2,n.p⟩|exact⟨_,hs1,n.p⟩|exact⟨_,hs2,n.p⟩|exact⟨_,zv8 _ _ _,n.p⟩|exact⟨_,ha1,n.p⟩|exact⟨_,ha2,n.p⟩|exact⟨_,hha,n.p⟩|exact sk n.p|exact ap n.p)):G:=h ⟨n⟩
theorem eyv1{G:Prop}(h:G:=by((repeat' (first  |refine sy ?_|(refine aZ ?_;intros)|refine cyv0 ?_|(refine s2 ?_ ?_<;>intro h7<;>try omega)));exact hQ.go _ _ _ zcz (.inr rfl) rfl)):G:=h
theorem ymy{most most':Int}{ss ss':List Slip}{ms ms':List SumR}{slip kind:Int}(hs0:0≤slip)(hs1:slip<256)(hk0:0≤kind)(hk1:kind<256)(hn:ss.length≤20)(hm:ms.length≤20)(hn':ss'.length≤20)(hm':ms'.length≤20)(h:ynu most ss ms most' ss' ms' slip kind) :
  AFn (cx (zch u)) 41 [bk most ss ms,bk most' ss' ms',.val (.int .u8 slip),.val (.int .u8 kind)] (vb true):=by
 refine zg1 Tryz.func41 rfl Tryz.ntmps41 rfl rfl rfl (fun Q hQ=>?_) rfl
 obtain⟨l1,l2,hlen,hnum,hlo,hhi,hlh,ham⟩:=h
 obtain⟨hg,_,hne⟩:=zme l1
 obtain⟨hg',_,hne'⟩:=zme l2
 have hw:=whatL_a (G:=zch u) kind hk0 hk1
 have hwo:=what_ok hk0
 have hh1:=zkg (u:=u) most ss ms hn hm
 have hh2:=zkg (u:=u) most' ss' ms' hn' hm'
 have e1:zr3 most ss ms=(((zah most ss ms).length:Int),0):=by rw [zr3,if_neg (by simp [ylp l1])]
 have e2:zr3 most' ss' ms'=(((zah most' ss' ms').length:Int),0):=by rw [zr3,if_neg (by simp [ylp l2])]
 rw [e1] at hh1
 rw [e2] at hh2
 have hs1:=sum_a (u:=u) most ss ms (yki kind) (ykj kind) hn hm
 have hs2:=sum_a (u:=u) most' ss' ms' (yki kind) (ykj kind) hn' hm'
 have f1:(zyr most ss ms (yki kind) (ykj kind)).2=0:=by rw [zyr,if_neg (by simp [ykq l1 hwo])]
 have f2:(zyr most' ss' ms' (yki kind) (ykj kind)).2=0:=by rw [zyr,if_neg (by simp [ykq l2 hwo])]
 rw [f1] at hs1
 rw [f2] at hs2
 clear f1 f2 e1 e2 hwo
 generalize yki kind=K at *
 generalize ykj kind=A at *
 generalize (zyr most ss ms K A).1=X at *
 generalize (zyr most' ss' ms' K A).1=Y at *
 have hpos:0<(zah most' ss' ms').length:=kbn.2 hne'
 generalize (zah most ss ms).length=n1 at *
 generalize (zah most' ss' ms').length=n2 at *
 have hd1:(!decide ((1:Int)≤(n2:Int)∧(n2:Int)≤(n1:Int)))=false:=by simp;omega
 have hd2:decide (Y.1<X.1)=false:=by simp;omega
 have hd3:decide (X.2<Y.2)=false:=by simp;omega
 have hd4:decide (Y.2<Y.1)=false:=by simp;omega
 by_cases h0:ss.length=0
 ·have hd0:decide (((ss.map Slip.row).length:Int)=0)=true:=by simpa using h0
  exact eyv1
 ·have hd0:decide (((ss.map Slip.row).length:Int)=0)=false:=by simpa using h0
  have hL:((ss.map Slip.row).length:Int)=(ss.length:Int):=by simp
  have hi:0≤slip % (ss.length:Int)∧slip % (ss.length:Int)<(ss.length:Int):=⟨Int.emod_nonneg _ (by omega),Int.emod_lt_of_pos _ (by omega)⟩;have ha1:=ymf (u:=u) most ss ms (slip % (ss.length:Int)) hn hm;have ha2:=ymf (u:=u) most' ss' ms' (slip % (ss.length:Int)) hn' hm';have o1:zbt most ss ms (ykm ss (slip % (ss.length:Int)))=0:=ykq l1 (if_pos (by simp;omega))
  have o2:zbt most' ss' ms' (ykm ss' (slip % (ss.length:Int)))=0:=ykq l2 (if_pos (by simp;omega));rw [o1,←hL] at ha1;rw [o2,←hL] at ha2;have hul:=ymt hg (slip % (ss.length:Int));have hvl:=ymt hg' (slip % (ss.length:Int));rw [←hL] at hul hvl ham;clear o1 o2;generalize ym3 most ss ms (slip % ((ss.map Slip.row).length:Int))=U at *
  generalize ym3 most' ss' ms' (slip % ((ss.map Slip.row).length:Int))=V at *;have hp0:0≤slip∧0<((ss.map Slip.row).length:Int):=by simp;omega
  (repeat' (first  |refine sy ?_|(refine aZ ?_;intros)|refine cyv0 ?_|(refine s2 ?_ ?_<;>intro h7<;>try omega)));refine zam V.length (fun j=>[(2*20,.av (.sl 1 (il U))),(2*22,.av (.sl 1 (il V))),(2*24,.av (vi j))]) ?_ ?_
  ·exact si
  ·intro j hj;rcases kae j V.length with hlt|hge
   ·have hd:decide ((j:Int)<((il V).length:Int))=true:=by simp;omega
    have hj1:vi ((j+1:Nat):Int)=vi ((j:Int)+1):=by simp
    have vj:=ykt hlt;have lj:j<(il V).length:=by simp;exact hlt
    have hin:decide (V.getD j 0∈U)=true:=by
     have:V.getD j 0∈V:=by rw [ylf hlt];exact kbf _
     exact decide_eq_true (ham _ this)
    have hha:=z75 (G:=zch u) U (V.getD j 0) hul;rw [hin] at hha;(repeat' (first  |refine sy ?_|(refine aZ ?_;intros)|refine cyv0 ?_|(refine s2 ?_ ?_<;>intro h7<;>try omega)));refine⟨hlt,?_⟩;exact si
   ·have he:j=V.length:=by omega
    subst he;have hd:decide ((V.length:Int)<((il V).length:Int))=false:=by simp
    exact eyv1
end
theorem yk3(f:Nat→Int):∀n,0<n→(∀i,i<n→(zh2 f n).1≤f i∧f i≤(zh2 f n).2)∧(∃i,i<n∧f i=(zh2 f n).1)∧∃i,i<n∧f i=(zh2 f n).2
 | 0,h=>absurd h (by omega)
 | 1,_=>by
   have e1:(zh2 f 1).1=f 0:=by simp [zh2]
   have e2:(zh2 f 1).2=f 0:=by simp [zh2]
   rw [e1,e2];exact⟨fun i hi=>by obtain rfl:i=0:=(by omega);exact⟨kek _,kek _⟩,⟨0,by omega,rfl⟩,⟨0,by omega,rfl⟩⟩
 | n+2,_=>by
   obtain⟨h1,⟨i,hi,ei⟩,⟨j,hj,ej⟩⟩:=yk3 f (n+1) (by omega);have e1:(zh2 f (n+2)).1=min (zh2 f (n+1)).1 (f (n+1)):=rfl;have e2:(zh2 f (n+2)).2=max (zh2 f (n+1)).2 (f (n+1)):=rfl;rw [e1,e2];refine⟨fun k hk=>?_,?_,?_⟩
   ·rcases kae k (n+1) with hk2|hk2
    ·have:=h1 k hk2;omega
    ·obtain rfl:k=n+1:=by omega
     omega
   ·rcases Int.le_total (zh2 f (n+1)).1 (f (n+1)) with hl|hl
    ·exact⟨i,by omega,by omega⟩
    ·exact⟨n+1,by omega,by omega⟩
   ·rcases Int.le_total (zh2 f (n+1)).2 (f (n+1)) with hl|hl
    ·exact⟨n+1,by omega,by omega⟩
    ·exact⟨j,by omega,by omega⟩
theorem ynq{most:Int}{ss:List Slip}{ms:List SumR}{k:Int}(h:zbt most ss ms (ykm ss k)=0)(x:Int):x∈ym3 most ss ms k↔∃p∈zah most ss ms,(zc0 ss p).getD k.toNat 0=x:=by unfold ym3;rw [if_pos h,ynm,(yk7 _).2 x];simp [ybr]
theorem yk9{ss ss':List Slip}{am am':List Int}(h:∀i k a,(ss'.getD i d7).part k a=(ss.getD i d7).part k a)(hn:∀j,am'.getD j 0=am.getD j 0)(k:Nat)(a:Int)(n:Nat):zbo ss' am' k a n=zbo ss am k a n:=by unfold zbo;congr 1;refine kcn fun i _=>?_;rw [hn i];congr 1;exact h i k a
theorem ynf{most most':Int}{ss ss':List Slip}{ms ms':List SumR}{slip kind:Int}(hs0:0≤slip)(hk0:0≤kind)(l1:zbt most ss ms 0=0)(l2:zbt most' ss' ms' 0=0)(hlen:ss'.length=ss.length)(hnum:(zah most' ss' ms').length≤(zah most ss ms).length)
  (hpart:∀i k a,(ss'.getD i d7).part k a=(ss.getD i d7).part k a) (hrel:∀p∈zah most' ss' ms',∃q∈zah most ss ms,∀j,(zc0 ss' p).getD j 0=(zc0 ss q).getD j 0):ynu most ss ms most' ss' ms' slip kind:=by
 have hwo:=what_ok hk0
 obtain⟨hg,_,hne⟩:=zme l1
 obtain⟨hg',_,hne'⟩:=zme l2
 have hp:0<(zah most ss ms).length:=kbn.2 hne
 have hp':0<(zah most' ss' ms').length:=kbn.2 hne'
 generalize hK:yki kind=K at hwo
 generalize hA:ykj kind=A at hwo
 have f1:(zyr most ss ms K A).1=zh2 (zzd most ss ms K A) (zah most ss ms).length:=by rw [zyr,if_neg (by simp [ykq l1 hwo])]
 have f2:(zyr most' ss' ms' K A).1=zh2 (zzd most' ss' ms' K A) (zah most' ss' ms').length:=by rw [zyr,if_neg (by simp [ykq l2 hwo])]
 obtain⟨a1,_,_⟩:=yk3 (zzd most ss ms K A) _ hp
 obtain⟨b1,⟨i,hi,ei⟩,⟨j,hj,ej⟩⟩:=yk3 (zzd most' ss' ms' K A) _ hp'
 have hmap:∀i,i<(zah most' ss' ms').length→∃j,j<(zah most ss ms).length∧zzd most' ss' ms' K A i=zzd most ss ms K A j:=fun i hi=>by
  obtain⟨q,hq,hn⟩:=hrel _ (zv9 hi);obtain⟨j,hj,he⟩:=ked hq;refine⟨j,hj,?_⟩;have hg2:(zah most ss ms).getD j d12=q:=by simp [hj,he]
  rw [zzd,zzd,hg2,hlen];exact yk9 hpart hn _ _ _
 refine⟨l1,l2,by omega,hnum,?_,?_,?_,?_⟩
 ·rw [hK,hA,f1,f2,←ei];obtain⟨j',hj',e⟩:=hmap i hi;rw [e];exact(a1 j' hj').1
 ·rw [hK,hA,f1,f2,←ej];obtain⟨j',hj',e⟩:=hmap j hj;rw [e];exact(a1 j' hj').2
 ·rw [hK,hA,f2];have:=b1 0 hp';omega
 ·intro x hx;have hsz:slip % (ss.length:Int)<(ss.length:Int)∨ss.length=0:=by
   rcases kbj ss.length with h|h
   ·exact .inr h
   ·exact .inl (Int.emod_lt_of_pos _ (by omega))
  by_cases h0:ss.length=0
  ·have hf:ym3 most' ss' ms' (slip % (ss.length:Int))=[]:=by
    unfold ym3;have:zbt most' ss' ms' (ykm ss' (slip % (ss.length:Int)))≠0:=by intro h;obtain⟨_,ho,_⟩:=zme h;unfold ykm at ho;rw [if_neg (by simp [hlen,h0];omega)] at ho;cases ho
    rw [if_neg this]
   rw [hf] at hx;cases hx
  ·have hi0:0≤slip % (ss.length:Int):=Int.emod_nonneg _ (by omega);have o1:zbt most ss ms (ykm ss (slip % (ss.length:Int)))=0:=ykq l1 (if_pos (by simp;omega));have o2:zbt most' ss' ms' (ykm ss' (slip % (ss.length:Int)))=0:=ykq l2 (if_pos (by simp;omega));rw [ynq o1];rw [ynq o2] at hx;obtain⟨p,hp,e⟩:=hx;obtain⟨q,hq,hn⟩:=hrel p hp;exact⟨q,hq,by rw [←hn];exact e⟩
theorem ykn{α:Type}{p q:α→Bool}(h:∀x,p x=true→q x=true):∀{l m:List α},l.Sublist m→(l.filter p).Sublist (m.filter q)
 | _,_,.slnil=>.slnil
 | l,_,.cons (l₂:=m) a hs=>by
   rw [kdk (x:=a)];split
   ·exact(ykn h hs).cons _
   ·exact ykn h hs
 | _,_,.cons_cons (l₁:=l) (l₂:=m) a hs=>by
   rw [kdk,kdk];by_cases h1:p a=true
   ·rw [if_pos h1,if_pos (h a h1)];exact(ykn h hs).cons_cons _
   ·rw [if_neg h1];split
    ·exact(ykn h hs).cons _
    ·exact ykn h hs
section
variable{G:zbf}
theorem yh1{t:TypeId}(hu:Tryz.prog.underlying t=some (.int .i64))(xs:Array Value)(off:Nat)(v:Value)(h:xs[off]?=some v)(w:World):(part t xs off).run Tryz.prog w=.ok v w:=by simp [part,isAgg,run_underlying hu,h]
theorem yio{t:TypeId}(hu:Tryz.prog.underlying t=some .bool)(xs:Array Value)(off:Nat)(v:Value)(h:xs[off]?=some v)(w:World):(part t xs off).run Tryz.prog w=.ok v w:=by simp [part,isAgg,run_underlying hu,h]
theorem yi0:(Tryz.prog.info? 30).map (·.size)=some 2:=by kernel_rfl
theorem yib(xs ys:Array Value)(off:Nat)(h:xs.extract off (off+2)=ys)(w:World):(part 30 xs off).run Tryz.prog w=.ok (.agg ys) w:=by
 obtain⟨i,hi,hs⟩:∃i,Tryz.prog.info? 30=some i∧i.size=2:=by
  have:=yi0;cases h:Tryz.prog.info? 30 with
  | none=>rw [h] at this;cases this
  | some i=>rw [h] at this;exact⟨i,rfl,by simpa using this⟩
 simp [part,isAgg,run_underlying z32,sizeOf,typeInfo,hi,hs,go_sem,h]
theorem yic(d:Nat)(a b:Int)(w:World):(Op.equalIn (d+2) 30 (.agg #[.int .i64 a,.int .i64 b]) (.agg #[.int .i64 a,.int .i64 b])).run Tryz.prog w=.ok true w:=by
 rw [run_equalIn_struct w (d+1) _ _ _ z32 z4d];have hf:=z1w;generalize (Tryz.prog.fieldsOf 30).toList=fs at hf;obtain⟨f,g,rfl⟩:∃f g,fs=[f,g]:=z00 (by have:=congrArg List.length hf;simpa using this);simp only [kbq,kej,kc8,Prod.mk.injEq,and_true] at hf;obtain⟨⟨h1,h2,h3⟩,h4,h5,h6⟩:=hf;have hn : f.name ≠ "_" := by rw [h1]; decide
 have hm : g.name ≠ "_" := by rw [h4]; decide
 have p0:∀w,(part 3 #[Value.int .i64 a,Value.int .i64 b] 0).run Tryz.prog w=.ok (.int .i64 a) w:=fun w=>zdu _ _ _ rfl w;have p1:∀w,(part 3 #[Value.int .i64 a,Value.int .i64 b] 1).run Tryz.prog w=.ok (.int .i64 b) w:=fun w=>zdu _ _ _ rfl w;simp [Op.eqFields,if_pos hn,if_pos hm,h2,h3,h5,h6,Sem.run_bind,p0,p1,Result.andThen_ok,run_equalIn_int w _ _ _ _ _ _ under_int]
theorem yip : (Tryz.prog.fieldsOf 67).toList.map (fun f => (f.name, f.type, f.offset)) = [("Kind", 65, 0), ("Dept", 3, 1), ("Clerk", 3, 2), ("For", 3, 3), ("Amount", 30, 4), ("Signed", 34, 6)] := by kernel_rfl
theorem yit : (Tryz.prog.fieldsOf 76).toList.map (fun f => (f.name, f.type, f.offset)) = [("Kind", 26, 0), ("A", 3, 1), ("Many", 30, 2), ("Firm", 4, 4)] := by kernel_rfl
theorem yin:Tryz.prog.stoodInHeld 67=false:=by kernel_rfl
theorem yis:Tryz.prog.stoodInHeld 76=false:=by kernel_rfl
theorem yh4:Tryz.prog.eqGuardType Tryz.prog.depth 67=false:=by kernel_rfl
theorem yh7:Tryz.prog.eqGuardType Tryz.prog.depth 76=false:=by kernel_rfl
theorem yi1{α:Type}:∀{l:List α},l.length=4→∃a b c d,l=[a,b,c,d]
 | [a,b,c,d],_=>⟨a,b,c,d,rfl⟩
theorem yi5{α:Type}:∀{l:List α},l.length=6→∃a b c d e f,l=[a,b,c,d,e,f]
 | [a,b,c,d,e,f],_=>⟨a,b,c,d,e,f,rfl⟩
theorem yh3(s:Slip)(w:World):(Op.equal 67 (.agg (zq9 s).toArray) (.agg (zq9 s).toArray)).run Tryz.prog w=.ok true w:=by
 show(Op.equalIn (9999+1) _ _ _).run _ _=_;rw [run_equalIn_struct w 9999 _ _ _ ycw yin];have hf:=yip;generalize (Tryz.prog.fieldsOf 67).toList=fs at hf;obtain⟨f0,f1,f2,f3,f4,f5,rfl⟩:∃a b c d e f,fs=[a,b,c,d,e,f]:=yi5 (by have:=congrArg List.length hf;simpa using this);simp only [kbq,kej,kc8,Prod.mk.injEq,and_true] at hf;obtain⟨⟨a0,b0,c0⟩,⟨a1,b1,c1⟩,⟨a2,b2,c2⟩,⟨a3,b3,c3⟩,⟨a4,b4,c4⟩,a5,b5,c5⟩:=hf
 have n0 : f0.name ≠ "_" := by rw [a0]; decide
 have n1 : f1.name ≠ "_" := by rw [a1]; decide
 have n2 : f2.name ≠ "_" := by rw [a2]; decide
 have n3 : f3.name ≠ "_" := by rw [a3]; decide
 have n4 : f4.name ≠ "_" := by rw [a4]; decide
 have n5 : f5.name ≠ "_" := by rw [a5]; decide
 have p0:∀w,(part 65 (zq9 s).toArray 0).run Tryz.prog w=.ok (.int .i64 s.kind) w:=fun w=>yh1 ycy _ _ _ rfl w;have p1:∀w,(part 3 (zq9 s).toArray 1).run Tryz.prog w=.ok (.int .i64 s.dept) w:=fun w=>yh1 zjd _ _ _ rfl w;have p2:∀w,(part 3 (zq9 s).toArray 2).run Tryz.prog w=.ok (.int .i64 s.clerk) w:=fun w=>yh1 zjd _ _ _ rfl w
 have p3:∀w,(part 3 (zq9 s).toArray 3).run Tryz.prog w=.ok (.int .i64 s.for_) w:=fun w=>yh1 zjd _ _ _ rfl w;have p4:∀w,(part 30 (zq9 s).toArray 4).run Tryz.prog w=.ok (.agg #[.int .i64 s.lo,.int .i64 s.hi]) w:=fun w=>yib _ _ _ rfl w;have p5:∀w,(part 34 (zq9 s).toArray 6).run Tryz.prog w=.ok (.int .i64 s.signed) w:=fun w=>yh1 yct _ _ _ rfl w;have e4:=fun w=>yic 9997 s.lo s.hi w
 simp only [Nat.reduceAdd] at e4;simp [Op.eqFields,if_pos n0,if_pos n1,if_pos n2,if_pos n3,if_pos n4,if_pos n5,b0,c0,b1,c1,b2,c2,b3,c3,b4,c4,b5,c5,Sem.run_bind,p0,p1,p2,p3,p4,p5,e4,Result.andThen_ok,run_equalIn_int w _ _ _ _ _ _ zjd,run_equalIn_int w _ _ _ _ _ _ ycy,run_equalIn_int w _ _ _ _ _ _ yct]
theorem yh6(m:SumR)(w:World):(Op.equal 76 (.agg (z7m m).toArray) (.agg (z7m m).toArray)).run Tryz.prog w=.ok true w:=by
 show(Op.equalIn (9999+1) _ _ _).run _ _=_;rw [run_equalIn_struct w 9999 _ _ _ yov yis];have hf:=yit;generalize (Tryz.prog.fieldsOf 76).toList=fs at hf;obtain⟨f0,f1,f2,f3,rfl⟩:∃a b c d,fs=[a,b,c,d]:=yi1 (by have:=congrArg List.length hf;simpa using this);simp only [kbq,kej,kc8,Prod.mk.injEq,and_true] at hf;obtain⟨⟨a0,b0,c0⟩,⟨a1,b1,c1⟩,⟨a2,b2,c2⟩,a3,b3,c3⟩:=hf
 have n0 : f0.name ≠ "_" := by rw [a0]; decide
 have n1 : f1.name ≠ "_" := by rw [a1]; decide
 have n2 : f2.name ≠ "_" := by rw [a2]; decide
 have n3 : f3.name ≠ "_" := by rw [a3]; decide
 have p0:∀w,(part 26 (z7m m).toArray 0).run Tryz.prog w=.ok (.int .i64 m.kind) w:=fun w=>yh1 u_sk _ _ _ rfl w;have p1:∀w,(part 3 (z7m m).toArray 1).run Tryz.prog w=.ok (.int .i64 m.a) w:=fun w=>yh1 zjd _ _ _ rfl w;have p2:∀w,(part 30 (z7m m).toArray 2).run Tryz.prog w=.ok (.agg #[.int .i64 m.lo,.int .i64 m.hi]) w:=fun w=>yib _ _ _ rfl w
 have p3:∀w,(part 4 (z7m m).toArray 4).run Tryz.prog w=.ok (.bool m.firm) w:=fun w=>yio z7g _ _ _ rfl w;have e4:=fun w=>yic 9997 m.lo m.hi w;simp only [Nat.reduceAdd] at e4
 simp [Op.eqFields,if_pos n0,if_pos n1,if_pos n2,if_pos n3,b0,c0,b1,c1,b2,c2,b3,c3,Sem.run_bind,p0,p1,p2,p3,e4,Result.andThen_ok,run_equalIn_int w _ _ _ _ _ _ zjd,run_equalIn_int w _ _ _ _ _ _ u_sk,run_equalIn_bool' w _ _ _ _ z7g]
theorem yia{E:Env}{w:World}(vs:List Value){v:Value}(h:Rep E w (.agg (vs.map .val)) v):v=.agg vs.toArray:=by
 cases h with
 | agg xs us hl h =>
   congr 1;have e:us=vs:=by
    refine kc0 fun i=>?_;rcases kae i vs.length with hi|hi
    ·have h1:(vs.map AV.val)[i]?=some (.val vs[i]):=by simp [hi]
     have hu:i<us.length:=by rw [←hl];simpa using hi
     have:=(h i _ us[i] h1 (kaa hu)).val_eq;rw [kaa hu,kaa hi,this]
    ·rw [kay hi,kay (by rw [←hl];simpa using hi)]
   rw [e]
theorem yh2(s:Slip):∀v∈zq9 s,za3 v:=fun v hv=>by simp only [zq9,kat,kb2,or_false] at hv;rcases hv with rfl|rfl|rfl|rfl|rfl|rfl|rfl<;>constructor
theorem yh5(m:SumR):∀v∈z7m m,za3 v:=fun v hv=>by simp only [z7m,kat,kb2,or_false] at hv;rcases hv with rfl|rfl|rfl|rfl|rfl<;>constructor
section
variable{s:AS}{N:Nat}{x y:Operand}{T t' ty:TypeId}{pos:String}{af:Array Edge}{g:Option (Nat×Bool)}{vs:List Value}
theorem yh9{d:Nat}(heq:∀w,(Op.equal T (.agg vs.toArray) (.agg vs.toArray)).run Tryz.prog w=.ok true w)(hgd:Tryz.prog.eqGuardType Tryz.prog.depth T=false)(hd:d<N)(hx:ev s x=some (.agg (vs.map .val)))(hy:ev s y=some (.agg (vs.map .val))) :
  AOp (cx G) N ⟨some d,.binOp .neq T x y t',ty,pos,af,g⟩ (rds x++rds y) s [(2*d,.av (vb false))] :=
 zau hd fun w0 E s' a w hR hr=>by have e1:=yia vs (hr.ev (zat hR (fun _ h=>by simp [h]) hx));have e2:=yia vs (hr.ev (zat hR (fun _ h=>by simp [h]) hy));refine⟨.bool false,?_,.val _,by simp [AV.ids]⟩;have hP:(cx G).P=Tryz.prog:=rfl;simp [execOp,e1,e2,eqGuard,binOp,heq,hP,hgd]
theorem yh8{d:Option Nat}{R:List Nat}(hpl:∀v∈vs,za3 v)(hx:ev s x=some (.agg (vs.map .val)))(hy:ev s y=some (.agg (vs.map .val)))(hs:zly (rds x++rds y) R=true) :
  AFt (cx G) ⟨d,.binOp .neq T x y t',ty,pos,af,g⟩ R s:=fun N w0 E s' a w hR hr=>by
 have hR:=agr hR hs
 have e1:=yia vs (hr.ev ((zas fun r h=>hR r (by simp [h])).trans hx))
 have e2:=yia vs (hr.ev ((zas fun r h=>hR r (by simp [h])).trans hy))
 have h0:za3 (.agg vs.toArray):=.agg _ fun v hv=>hpl v (by simpa using hv)
 have h1:za3 (a.eval x):=by rw [e1];exact h0
 have h2:za3 (a.eval y):=by rw [e2];exact h0
 refine zjc ?_
 rw [ft_bind];exact zoo _ _ _ _ _ _ h1 h2 (zwe _ _ _ _ h1 h2 fun _=>trivial)
end
end
section
variable{G:zbf}{u:Nat→ByteArray}
theorem yi6{E:Env}{w:World}{most:Int}{v:Value}(h:Rep E w (.agg [vi most,.val (.slice none 0 0),.val (.slice none 0 0)]) v):Rep E w (.agg [vi most,.sl 7 [],.sl 5 []]) v:=by
 cases h with
 | agg xs us hl h =>
   refine .agg _ us hl fun i x v hx hv=>?_
   match i with
   | 0=>exact h 0 x v hx hv
   | 1 =>
     obtain rfl:=(h 1 _ v rfl hv).val_eq;obtain rfl:AV.sl 7 []=x:=by simpa using hx
     exact .nil 7
   | 2 =>
     obtain rfl:=(h 2 _ v rfl hv).val_eq;obtain rfl:AV.sl 5 []=x:=by simpa using hx
     exact .nil 5
   | i+3=>simp at hx
attribute [local irreducible] AOp AW ADr AFn ze1 AFt AOpJ
set_option maxRecDepth 20000
set_option maxHeartbeats 8000000
theorem uyh0{P G:Prop}(n:P)(h:Wr P→G:=by(intro nq9;first|exact g1 nq9.p (by first|exact gdN rfl|exact gdT rfl rfl rfl) ⟨yh9 (yh3 z) yh4 (by decide) rfl rfl,yh8 (yh2 z) rfl rfl rfl⟩|exact g1 nq9.p (by first|exact gdN rfl|exact gdT rfl rfl rfl) ⟨yh9 (yh6 z2) yh7 (by decide) rfl rfl,yh8 (yh5 z2) rfl rfl rfl⟩)):G:=h ⟨n⟩
theorem eyh2{G:Prop}(h:G:=by((repeat' (first|refine uyh0 ?_|refine sy ?_|(refine aZ ?_;intros)|refine w0 ?_|(refine s2 ?_ ?_<;>intro h7<;>try omega)));refine⟨hlt,?_⟩;exact si)):G:=h
theorem yi2(most:Int)(ss:List Slip)(ms:List SumR)(hn:ss.length≤20)(hm:ms.length≤20):AFn (cx G) 38 [bk most ss ms,bk most ss ms] (vb true):=by
 refine aby Tryz.func38 Tryz.ntmps38 fun Q hQ=>?_;have hb1:(!decide (most=most))=false:=by simp
 have hb2:(!decide (((ss.map Slip.row).length:Int)=((ss.map Slip.row).length:Int)))=false:=by simp
 have hb3:(!decide (((ms.map SumR.row).length:Int)=((ms.map SumR.row).length:Int)))=false:=by simp
 have hb4:decide (most=most)=true:=by simp
 have hb5:decide (((ss.map Slip.row).length:Int)=((ss.map Slip.row).length:Int))=true:=by simp
 have hb6:decide (((ms.map SumR.row).length:Int)=((ms.map SumR.row).length:Int))=true:=by simp
 have z:Slip:=d7;have z2:SumR:=d5;(repeat' (first|refine uyh0 ?_|refine sy ?_|(refine aZ ?_;intros)|refine w0 ?_|(refine s2 ?_ ?_<;>intro h7<;>try omega)))
 refine zam ss.length (fun i=>[(2*2,.av (.ptr 2 0)),(2*2+1,.cells 25 [vi most,.sl 7 (ss.map Slip.row),.sl 5 (ms.map SumR.row)]),(2*3,.av (.ptr 3 0)),(2*3+1,.cells 25 [vi most,.sl 7 (ss.map Slip.row),.sl 5 (ms.map SumR.row)]),(2*5,.av (vi i))]) ?_ ?_
 ·exact si
 ·intro i hi;rcases kae i ss.length with hlt|hge
  ·clear z;obtain⟨z,hz⟩:∃z,ss[i]?=some z:=⟨_,kaa hlt⟩;have hrow:(ss.map Slip.row)[i]?=some z.row:=by simp [hz]
   have hil:i<(ss.map Slip.row).length:=by simpa using hlt
   have hd:decide ((i:Int)<((ss.map Slip.row).length:Int))=true:=by simp;omega
   have hi1:vi ((i+1:Nat):Int)=vi ((i:Int)+1):=by simp
   exact eyh2
  ·have he:i=ss.length:=by omega
   subst he;have hd:decide ((ss.length:Int)<((ss.map Slip.row).length:Int))=false:=by simp
   (repeat' (first|refine uyh0 ?_|refine sy ?_|(refine aZ ?_;intros)|refine w0 ?_|(refine s2 ?_ ?_<;>intro h7<;>try omega)));refine zam ms.length (fun i=>[(2*2,.av (.ptr 2 0)),(2*2+1,.cells 25 [vi most,.sl 7 (ss.map Slip.row),.sl 5 (ms.map SumR.row)]),(2*3,.av (.ptr 3 0)),(2*3+1,.cells 25 [vi most,.sl 7 (ss.map Slip.row),.sl 5 (ms.map SumR.row)]),(2*6,.av (vi i))]) ?_ ?_
   ·exact si
   ·intro i hi;rcases kae i ms.length with hlt|hge
    ·clear z2;obtain⟨z2,hz⟩:∃z,ms[i]?=some z:=⟨_,kaa hlt⟩;have hrow:(ms.map SumR.row)[i]?=some z2.row:=by simp [hz]
     have hil:i<(ms.map SumR.row).length:=by simpa using hlt
     have hd:decide ((i:Int)<((ms.map SumR.row).length:Int))=true:=by simp;omega
     have hi1:vi ((i+1:Nat):Int)=vi ((i:Int)+1):=by simp
     exact eyh2
    ·have he:i=ms.length:=by omega
     subst he;have hd:decide ((ms.length:Int)<((ms.map SumR.row).length:Int))=false:=by simp
     (repeat' (first|refine uyh0 ?_|refine sy ?_|(refine aZ ?_;intros)|refine w0 ?_|(refine s2 ?_ ?_<;>intro h7<;>try omega)));refine fe ?_;rfl
end
end Go.Ab.J
namespace Go.Ab.J
open Go Go.Proofs Go.Kp Go.ChangeShapes Go.WideShapes Go.ChangeAt Go.RowKit
section
variable{H:Type}{enc:TypeId×Value→H}{w:World}{base b0:Nat}{sp:Nat→Bool}{held:Bool}{v:Value}{d:DataW H}{p:List MemPlace}
set_option maxRecDepth 100000
theorem ypf(hok:Value.okWide Tryz.prog w .any b0 76 v)(h:DataW.Trod enc Tryz.prog w base sp held 76 v d p):∃s:SumR,Rep (zca (zd0 w)) w (.agg s.row) v:=by
 obtain⟨fuel,h⟩:=h;obtain⟨s,hs⟩:=z36 fuel _ _ h;obtain rfl:=trod_agg yov hok hs
 exact⟨s,rep_rowK (z7m s)⟩
end
section
variable{H:Type}{enc:TypeId×Value→H}{P:Program}{w:World}{base:Nat}{spare:Nat→Bool}{held:Bool}
end
end Go.Ab.J
