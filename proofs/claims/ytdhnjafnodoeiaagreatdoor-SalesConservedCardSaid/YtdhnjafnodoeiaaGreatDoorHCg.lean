/- For every book, and whatever was written, the function SalesConserved answers true, whatever other goroutines do, and leaves its arguments as they were. Conditions: those of the given row. -/
import Derived.Test.YtdhnjafnodoeiaaGreatDoorHCf
import Derived.Calls
import Derived.Conc.AtomicLaws2
import Derived.Conc.Beside
import Derived.Conc.ClockLaws
import Derived.Conc.CompanyMem
import Derived.Conc.HoldsTime
import Derived.Conc.LockJoin
import Derived.Conc.MarkLaws
import Derived.Conc.MuStops
import Derived.Conc.Own
import Derived.Conc.Starve
import Derived.Laws.CopyRow
import Derived.Laws.MakeOwn
import Derived.Laws.OwnMore
import Derived.Laws.Sem
import Derived.MapKept
import Derived.OwnWalkIn
import Derived.RangeFuncBound
import Derived.RangeFuncCalls
import Derived.RangeFuncLeaves
import Derived.RangeFuncNested
import Derived.RangeFuncRecord
import Derived.Shelf.Abstract
import Derived.TacticsInMore
import Derived.WalkKit
namespace Go.Ab.J
open Go Go.Proofs Go.Kp
def yg6(s:Slip)(w:Int)(b:Bool):Slip:={ s with lo:=w,hi:=w,signed:=if s.kind=5 then (if b then 1 else 2) else s.signed }
def ygu(ss:List Slip)(wr:List Int)(bs:List Bool)(n:Nat):List Slip:=(List.range ss.length).map fun i=>if i<n then yg6 (ss.getD i d7) (wr.getD i 0) (bs.getD i false) else ss.getD i d7
theorem ygs(ss:List Slip)(wr:List Int)(bs:List Bool)(n:Nat):(ygu ss wr bs n).length=ss.length:=by simp [ygu]
theorem yg5{ss:List Slip}{wr:List Int}{bs:List Bool}{n i:Nat}(hi:i<ss.length):(ygu ss wr bs n).getD i d7=if i<n then yg6 (ss.getD i d7) (wr.getD i 0) (bs.getD i false) else ss.getD i d7:=by simp [ygu,List.getElem?_range hi]
structure yg3(ss ss':List Slip):Prop where
 len:ss'.length=ss.length
 kind:∀i,(ss'.getD i d7).kind=(ss.getD i d7).kind
 dept:∀i,(ss'.getD i d7).dept=(ss.getD i d7).dept
 clerk:∀i,(ss'.getD i d7).clerk=(ss.getD i d7).clerk
 for_:∀i,(ss'.getD i d7).for_=(ss.getD i d7).for_
theorem yg1(ss:List Slip)(wr:List Int)(bs:List Bool)(n:Nat):yg3 ss (ygu ss wr bs n):=by
 have key:∀i,(ygu ss wr bs n).getD i d7=ss.getD i d7∨(ygu ss wr bs n).getD i d7=yg6 (ss.getD i d7) (wr.getD i 0) (bs.getD i false):=fun i=>by
  rcases kae i ss.length with h|h
  ·rw [yg5 h];split
   ·exact .inr rfl
   ·exact .inl rfl
  ·left;rw [kai,kai,kay (by rw [ygs];exact h),kay h]
 refine⟨ygs _ _ _ _,fun i=>?_,fun i=>?_,fun i=>?_,fun i=>?_⟩<;>rcases key i with h|h<;>rw [h]<;>rfl
theorem yg3.now{ss ss':List Slip}(h:yg3 ss ss')(wr:List Int)(sg:List Bool):∀n,zdv ss' wr sg n=zdv ss wr sg n
 | 0=>rfl
 | n+1=>by simp only [zdv,h.now wr sg n,h.kind,h.for_]
theorem yg3.back{ss ss':List Slip}(h:yg3 ss ss')(now:List Int)(i:Nat):∀n,zc6 ss' now i n=zc6 ss now i n
 | 0=>rfl
 | n+1=>by simp only [zc6,h.back now i n,h.kind,h.for_]
theorem yg3.backOf{ss ss':List Slip}(h:yg3 ss ss')(now:List Int):zf9 ss' now=zf9 ss now:=by unfold zf9;simp only [h.back]
theorem yg3.part{ss ss':List Slip}(h:yg3 ss ss')(i k:Nat)(a:Int):(ss'.getD i d7).part k a=(ss.getD i d7).part k a:=by simp only [Slip.part,h.kind,h.dept,h.clerk]
theorem yg3.sum{ss ss':List Slip}(h:yg3 ss ss')(am:List Int)(k:Nat)(a:Int):∀n,zbo ss' am k a n=zbo ss am k a n
 | 0=>rfl
 | n+1=>by rw [zji,zji,h.sum am k a n];exact congrArg (fun x=>_+x*_) (h.part n k a)
theorem yg3.fixes{ss ss':List Slip}(h:yg3 ss ss')(n:Nat):zae ss' n=zae ss n:=by unfold zae;congr 1;refine List.filter_congr fun j _=>?_;have:=h.kind j;simp only [show(ss'.getD j ⟨0,0,0,0,0,0,0⟩).kind=(ss.getD j ⟨0,0,0,0,0,0,0⟩).kind from this]
theorem yhk(w:Int):zbr w w=[w]:=by simp [zbr]
def ygt(ss:List Slip)(bs:List Bool):Nat→List Bool
 | 0=>[]
 | n+1=>if (ss.getD n d7).kind=5 then ygt ss bs n++[bs.getD n false] else ygt ss bs n
theorem yhr{ss:List Slip}{wr:List Int}{bs:List Bool}(hw:wr.length=ss.length)(hsg:∀i,i<ss.length→(ss.getD i d7).kind≠5→(ss.getD i d7).signed=0) :
  ∀m i,i+m=ss.length→zhu (ygu ss wr bs ss.length) m i (wr.take i) (ygt ss bs i)=[(wr,ygt ss bs ss.length)]
 | 0,i,h=>by
   have:i=ss.length:=by omega
   subst this;simp [zhu,←hw]
 | m+1,i,h=>by
   have hi:i<ss.length:=by omega
   have ih:=yhr hw hsg m (i+1) (by omega) (bs:=bs);have hg:(ygu ss wr bs ss.length).getD i d7=yg6 (ss.getD i d7) (wr.getD i 0) (bs.getD i false):=by rw [yg5 hi,if_pos hi]
   have htk:wr.take i++[wr.getD i 0]=wr.take (i+1):=by rw [kb8,kai,kaa (by omega)];rfl
   simp only [zhu,hg,yg6,yhk,List.flatMap_cons,List.flatMap_nil,kda,htk];by_cases h5:(ss.getD i d7).kind=5
   ·have hs:ygt ss bs (i+1)=ygt ss bs i++[bs.getD i false]:=by simp only [ygt];rw [if_pos h5]
    rw [hs] at ih;simp only [h5,ne_eq,not_true_eq_false,if_false,if_true];cases hb:bs.getD i false with
    | true=>rw [hb] at ih;simpa using ih
    | false=>rw [hb] at ih;simpa using ih
   ·have hs:ygt ss bs (i+1)=ygt ss bs i:=by simp only [ygt];rw [if_neg h5]
    rw [hs] at ih;simp only [h5,ne_eq,not_false_eq_true,if_true];exact ih
theorem yg9{most:Int}{ss:List Slip}{ms:List SumR}{wr:List Int}{bs:List Bool}(hg:Good most ss ms)(ha:∀i,0≤wr.getD i 0∧wr.getD i 0≤999):Good most (ygu ss wr bs ss.length) [] where
 most:=hg.most
 nss:=by rw [ygs];exact hg.nss
 slip:=fun i s hs=>by
  have hs':=yg1 ss wr bs ss.length;have hi:i<ss.length:=by have:=(kab.1 hs).1;rwa [ygs] at this
  have e:s=yg6 (ss.getD i d7) (wr.getD i 0) (bs.getD i false):=by have:=yg5 (wr:=wr) (bs:=bs) (n:=ss.length) hi;rw [if_pos hi,kai,hs] at this;simpa using this
  have h:=zld hg hi;have hkd:=hs'.kind;subst e;refine⟨h.kind,h.dept,h.dept0,h.clerk,fun hk=>?_,fun hk=>?_,h.fo,?_,?_,?_⟩
  ·obtain⟨a,b,c⟩:=h.for3 hk;refine⟨a,b,?_⟩;show((ygu ss wr bs ss.length).getD (ss.getD i d7).for_.toNat d7).kind=0∨((ygu ss wr bs ss.length).getD (ss.getD i d7).for_.toNat d7).kind=1;rw [hkd];exact c
  ·obtain⟨a,b,c⟩:=h.for5 hk;refine⟨a,b,?_⟩;show((ygu ss wr bs ss.length).getD (ss.getD i d7).for_.toNat d7).kind≠5;rw [hkd];exact c
  ·have:=ha i;show 0≤wr.getD i 0∧wr.getD i 0≤wr.getD i 0∧wr.getD i 0≤999∧wr.getD i 0-wr.getD i 0<3;omega
  ·show 0≤(if (ss.getD i d7).kind=5 then (if bs.getD i false then (1:Int) else 2) else (ss.getD i d7).signed)∧(if (ss.getD i d7).kind=5 then (if bs.getD i false then (1:Int) else 2) else (ss.getD i d7).signed)≤2;have:=h.sg;split
   ·split<;>omega
   ·exact this
  ·intro hk;show(if (ss.getD i d7).kind=5 then (if bs.getD i false then (1:Int) else 2) else (ss.getD i d7).signed)=0;have hk':(ss.getD i d7).kind≠5:=hk;rw [if_neg hk'];exact h.sg0 hk'
 fix:=by rw [ygs,(yg1 ss wr bs ss.length).fixes];exact hg.fix
 nms:=by simp
 sum:=fun m hm=>by cases hm
theorem yhd{most:Int}{ss:List Slip}{ms:List SumR}{wr:List Int}{bs:List Bool}(hg:Good most ss ms)(hw:wr.length=ss.length)(ha:∀i,0≤wr.getD i 0∧wr.getD i 0≤999)
  (hb:zf9 ss (zc7 ss (wr,ygt ss bs ss.length))=true):zaj most (ygu ss wr bs ss.length) []=[(wr,ygt ss bs ss.length)]:=by
 have hg':=yg9 (bs:=bs) hg ha
 have hs:=yg1 ss wr bs ss.length
 have hall:allR (ygu ss wr bs ss.length)=[(wr,ygt ss bs ss.length)]:=by unfold allR;rw [ygs];have:=yhr (bs:=bs) hw (yap hg) ss.length 0 (by omega);simpa [ygt] using this
 have hp:zxr (ygu ss wr bs ss.length) wr (ygt ss bs ss.length)=true:=by
  have e:=zuv hg';rw [hall] at e;obtain⟨p,hp,hpe⟩:∃p∈zgf (ygu ss wr bs ss.length),toR (ygu ss wr bs ss.length) p=(wr,ygt ss bs ss.length):=by
   have:(wr,ygt ss bs ss.length)∈(zgf (ygu ss wr bs ss.length)).map (toR (ygu ss wr bs ss.length)):=by rw [←e];simp
   obtain⟨p,h1,h2⟩:=kav.1 this;exact⟨p,h1,h2⟩
  have:=z4y hg' p (z6x hg' p hp);rwa [hpe] at this
 have hnow:zc7 (ygu ss wr bs ss.length) (wr,ygt ss bs ss.length)=zc7 ss (wr,ygt ss bs ss.length):=by unfold zc7;rw [ygs,hs.now]
 unfold zaj
 rw [hall]
 have hm:=hg.most
 have:zdk most (ygu ss wr bs ss.length) [] (wr,ygt ss bs ss.length)=true:=by unfold zdk;rw [hnow,hs.backOf,hb,hp];simp [zan,zao,zse];omega
 simp [this]
theorem yhu{most:Int}{ss:List Slip}{ms:List SumR}{wr:List Int}{bs:List Bool}(hg:Good most ss ms)(hw:wr.length=ss.length)(ha:∀i,0≤wr.getD i 0∧wr.getD i 0≤999)
  (hb:zf9 ss (zc7 ss (wr,ygt ss bs ss.length))=true):zr3 most (ygu ss wr bs ss.length) []=(1,0):=by
 have hg':=yg9 (bs:=bs) hg ha
 have hc:=(za2 _ _ _).2 hg'
 have h1:=congrArg List.length (zg9 hg')
 rw [yhd hg hw ha hb] at h1
 have h2:(zah most (ygu ss wr bs ss.length) []).length=1:=by simpa using h1.symm
 simp [zr3,hc,h2]
theorem yhz{most:Int}{ss:List Slip}{ms:List SumR}{wr:List Int}{bs:List Bool}(hg:Good most ss ms)(hw:wr.length=ss.length)(ha:∀i,0≤wr.getD i 0∧wr.getD i 0≤999)
  (hb:zf9 ss (zc7 ss (wr,ygt ss bs ss.length))=true) (k a:Int) (hk:zc8 k a=0) :
  zyr most (ygu ss wr bs ss.length) [] k a=((zbo ss (zc7 ss (wr,ygt ss bs ss.length)) k.toNat a ss.length,zbo ss (zc7 ss (wr,ygt ss bs ss.length)) k.toNat a ss.length),0):=by
 have hg':=yg9 (bs:=bs) hg ha
 have hc:=(za2 _ _ _).2 hg'
 have hs:=yg1 ss wr bs ss.length
 have hp:=yhd (bs:=bs) hg hw ha hb
 have hl:zcl most (ygu ss wr bs ss.length) [] (zc8 k a)=0:=by simp [zcl,hc,hk,hp]
 rw [yc6]
 unfold znn
 rw [hl,if_neg (by simp),hp]
 have hnow:zc7 (ygu ss wr bs ss.length) (wr,ygt ss bs ss.length)=zc7 ss (wr,ygt ss bs ss.length):=by unfold zc7;rw [ygs,hs.now]
 have e:sumQ most (ygu ss wr bs ss.length) [] k a 0=zbo ss (zc7 ss (wr,ygt ss bs ss.length)) k.toNat a ss.length:=by unfold sumQ;rw [hp,ygs,hs.sum];simp only [List.getD_cons_zero,hnow]
 simp [zfu,e]
theorem yg8{s:Slip}(hk:0≤s.kind∧s.kind≤5)(hc:0≤s.clerk∧s.clerk≤3):s.part 0 0+s.part 3 0=s.part 2 0+s.part 2 1+s.part 2 2+s.part 2 3:=by obtain⟨kind,dept,clerk,f,lo,hi,sg⟩:=s;simp only at hk hc;rcases(show clerk=0∨clerk=1∨clerk=2∨clerk=3 by omega) with rfl|rfl|rfl|rfl<;>rcases(show kind=0∨kind=1∨kind=2∨kind=3∨kind=4∨kind=5 by omega) with rfl|rfl|rfl|rfl|rfl|rfl<;>rfl
theorem yhm{s:Slip}(hk:0≤s.kind∧s.kind≤5)(hc:0≤s.clerk∧s.clerk≤3)(hd:0≤s.dept∧s.dept≤4):s.part 2 0+s.part 2 1+s.part 2 2+s.part 2 3+s.part 4 0=s.part 1 0+s.part 1 1+s.part 1 2+s.part 1 3+s.part 1 4:=by
 rw [←yg8 hk hc];obtain⟨kind,dept,clerk,f,lo,hi,sg⟩:=s;simp only at hk hd;rcases(show dept=0∨dept=1∨dept=2∨dept=3∨dept=4 by omega) with rfl|rfl|rfl|rfl|rfl<;>rcases(show kind=0∨kind=1∨kind=2∨kind=3∨kind=4∨kind=5 by omega) with rfl|rfl|rfl|rfl|rfl|rfl<;>rfl
theorem ygz{most:Int}{ss:List Slip}{ms:List SumR}(hg:Good most ss ms)(am:List Int):∀n,n≤ss.length→
  zbo ss am 0 0 n+zbo ss am 3 0 n=zbo ss am 2 0 n+zbo ss am 2 1 n+zbo ss am 2 2 n+zbo ss am 2 3 n∧
  zbo ss am 2 0 n+zbo ss am 2 1 n+zbo ss am 2 2 n+zbo ss am 2 3 n+zbo ss am 4 0 n=zbo ss am 1 0 n+zbo ss am 1 1 n+zbo ss am 1 2 n+zbo ss am 1 3 n+zbo ss am 1 4 n
 | 0,_=>⟨rfl,rfl⟩
 | n+1,h=>by
   obtain⟨i1,i2⟩:=ygz hg am n (by omega);have hs:=zld hg (show n<ss.length by omega);have p1:=yg8 hs.kind hs.clerk;have p2:=yhm hs.kind hs.clerk hs.dept;have e:∀k a,zbo ss am k a (n+1)=zbo ss am k a n+(ss.getD n d7).part k a*am.getD n 0:=fun k a=>zji ss am k a n;simp only [e];generalize (ss.getD n d7)=s at *;generalize am.getD n 0=x at *;have m1:=congrArg (· * x) p1;have m2:=congrArg (· * x) p2
   simp only [Int.add_mul] at m1 m2;constructor
   ·omega
   ·omega
section
variable{G:zbf}{u:Nat→ByteArray}
theorem yhc(ss:List Slip)(ps:List Nat){i n:Nat}(hi:i<n):(ygy ss ps n)[i]?=some (yhh (ss.getD i d7) (ygr ps i)):=by
 induction n with
 | zero=>omega
 | succ n ih =>
   simp only [ygy];rcases kae i n with h|h
   ·rw [kam (by rw [ygw];exact h)];exact ih h
   ·have:i=n:=by omega
    subst this;rw [kao (by rw [ygw];exact kac _),ygw];simp
theorem yhl(ss:List Slip)(ps:List Nat){i n:Nat}(hi:i<n)(h5:(ss.getD i d7).kind=5):(ygv ss ps n)[(zae ss i).length]?=some (yg4 (ss.getD i d7) (ygr ps i)):=by
 induction n with
 | zero=>omega
 | succ n ih =>
   simp only [ygv];rcases kae i n with h|h
   ·have:=ih h;split
    ·rw [kam (kab.1 this).1];exact this
    ·exact this
   ·have:i=n:=by omega
    subst this;rw [if_pos h5,←yg0 ss ps i,kao (kac _)];simp
theorem yht{most:Int}{ss:List Slip}{ms:List SumR}(hg:Good most ss ms)(ps:List Nat):zhn (ygy ss ps ss.length):=fun i=>by
 rcases kae i ss.length with h|h
 ·rw [kai,yhc ss ps h];have ha:=(zld hg h).amt;obtain⟨a,b⟩:=yhp (ygr ps i) ((ss.getD i d7).hi-(ss.getD i d7).lo+1) (by omega);simp only [kcp,yhh];omega
 ·rw [kai,kay (by rw [ygw];exact h)];simp
def bsR(ss:List Slip)(ps:List Nat):List Bool:=(List.range ss.length).map fun i=>yg4 (ss.getD i d7) (ygr ps i)
theorem yhs{ss:List Slip}(ps:List Nat){i:Nat}(h:i<ss.length):(bsR ss ps).getD i false=yg4 (ss.getD i d7) (ygr ps i):=by simp [bsR,List.getElem?_range h]
theorem yg7(ss:List Slip)(ps:List Nat):∀n,n≤ss.length→ygt ss (bsR ss ps) n=ygv ss ps n
 | 0,_=>rfl
 | n+1,h=>by simp only [ygt,ygv,yg7 ss ps n (by omega),yhs ps (show n<ss.length by omega)]
theorem yhn(ss:List Slip)(wr:List Int)(bs:List Bool):ygu ss wr bs 0=ss:=by refine List.ext_getElem (ygs _ _ _ _) fun j h1 h2=>?_;simp [ygu,h2]
theorem yho{ss:List Slip}{wr:List Int}{bs:List Bool}{i:Nat}(_hi:i<ss.length):(ygu ss wr bs i).set i (yg6 (ss.getD i d7) (wr.getD i 0) (bs.getD i false))=ygu ss wr bs (i+1):=by
 refine List.ext_getElem (by simp [ygu]) fun j h1 h2=>?_;rw [List.getElem_set];by_cases e:i=j
 ·subst e;simp [ygu]
 ·rw [if_neg e];simp only [ygu,List.getElem_map,List.getElem_range];by_cases h:j<i
  ·rw [if_pos h,if_pos (by omega)]
  ·rw [if_neg h,if_neg (by omega)]
theorem yhw{E:Env}{w:World}{most:Int}{rows:List (List AV)}{v:Value}(h:Rep E w (.agg [vi most,.sl 7 rows,.val (.slice none 0 0)]) v):Rep E w (.agg [vi most,.sl 7 rows,.sl 5 []]) v:=by
 cases h with
 | agg xs us hl h =>
   refine .agg _ us hl fun i x v hx hv=>?_
   match i with
   | 0=>exact h 0 x v hx hv
   | 1=>exact h 1 x v hx hv
   | 2 =>
     obtain rfl:=(h 2 _ v rfl hv).val_eq;obtain rfl:AV.sl 5 []=x:=by simpa using hx
     exact .nil 5
   | i+3=>simp at hx
def yhb(f:Nat→Int):Nat→Int
 | 0=>0
 | n+1=>yhb f n+f n
theorem yhe{f:Nat→Int}{c:Int}(hc:0≤c)(h:∀i,-c≤f i∧f i≤c):∀n:Nat,n≤6→-6*c≤yhb f n∧yhb f n≤6*c:=by
 have key:∀n:Nat,-(n:Int)*c≤yhb f n∧yhb f n≤(n:Int)*c:=fun n=>by
  induction n with
  | zero=>simp [yhb]
  | succ n ih =>
    have:=h n;simp only [yhb];have e:((n+1:Nat):Int)*c=(n:Int)*c+c:=by rw [Int.natCast_add,Int.add_mul];simp
    have e2:-((n+1:Nat):Int)*c=-(n:Int)*c-c:=by rw [Int.neg_mul,e,Int.neg_mul];omega
    omega
 intro n hn;have k:=key n;have:(n:Int)*c≤6*c:=Int.mul_le_mul_of_nonneg_right (by omega) hc;have e:-(n:Int)*c=-((n:Int)*c):=Int.neg_mul _ _;have e3:-6*c=-(6*c):=Int.neg_mul _ _;omega
attribute [local irreducible] AOp AW ADr AFn ze1 AFt AOpJ
set_option maxRecDepth 20000
set_option maxHeartbeats 16000000
theorem yhq{P G:Prop}(n:P)(h:Go.Kp.Wr P→G:=by(intro n;first|((with_reducible apply kC);first|exact gB ⟨_,ygp _ _ _,.mk rfl n.p⟩|exact gB ⟨_,hsum,.mk rfl n.p⟩|exact gB ⟨_,hre,.mk rfl n.p⟩|exact gB ⟨_,htr,.mk rfl n.p⟩|exact gB ⟨_,to_a _ _,.mk rfl n.p⟩|exact gB ⟨_,hS0,.mk rfl n.p⟩|exact gB ⟨_,hS3,.mk rfl n.p⟩|exact gB ⟨_,hS4,.mk rfl n.p⟩|exact gB ⟨_,hS2i,.mk rfl n.p⟩|exact gB ⟨_,hS1i,.mk rfl n.p⟩|exact gB ⟨_,hH,.mk rfl n.p⟩|exact gK n.p|exact gS n.p)|exact⟨_,ygp _ _ _,n.p⟩|exact⟨_,hsum,n.p⟩|exact⟨_,hre,n.p⟩|exact⟨_,htr,n.p⟩|exact⟨_,to_a _ _,n.p⟩|exact⟨_,hS0,n.p⟩|exact⟨_,hS3,n.p⟩|exact⟨_,hS4,n.p⟩|exact⟨_,hS2i,n.p⟩|exact⟨_,hS1i,n.p⟩|exact⟨_,hH,n.p⟩|exact sk n.p|exact ap n.p)):G:=h ⟨n⟩
theorem yha(u:Nat→ByteArray)(hsum:AFn (cx (zch u)) 10 [] (vb true))(most:Int)(ss:List Slip)(ms:List SumR)(ps:List Nat)(hp:∀x∈ps,x<65536):Top (cx (zch u)) 4 [bk most ss ms,.sl 1 (ygx ps)] (vb true):=by
 refine top_by Tryz.func4 (by kernel_rfl) rfl Tryz.ntmps4 rfl rfl ?_ rfl;refine zab fun Q hQ=>?_;by_cases hfit:(ss.length≤20∧ms.length≤20)∧zak most ss ms=0;case neg =>
  have hd1:decide ((ss.length≤20∧ms.length≤20)∧zak most ss ms=0)=false:=decide_eq_false hfit;(repeat' (first|refine sx ?_|refine aS fun P9 h9=>?_|refine aB fun P9 _ _ _ _=>?_|refine yhq ?_|(refine s2 ?_ ?_<;>intro h7<;>try omega)));refine fe ?_;rfl
 have hd1:decide ((ss.length≤20∧ms.length≤20)∧zak most ss ms=0)=true:=decide_eq_true hfit;obtain⟨⟨hn,hm⟩,hc⟩:=hfit;have hg:=(za2 most ss ms).1 hc;have hre:=yhv (G:=zch u) most ss ms ps hp hn hg.slip;have hwok:=yht hg ps;have hbs:=yg7 ss ps ss.length (kac _)
 have htr:=yhy (G:=zch u) most ss ms (ygy ss ps ss.length) (ygv ss ps ss.length) (zdv ss (ygy ss ps ss.length) (ygv ss ps ss.length) ss.length).1 hn hm hg.slip (ygw _ _ _) (yg0 _ _ _) rfl (zma _ _ _ hwok _) hg.k0;have hnowe:zc7 ss (ygy ss ps ss.length,ygt ss (bsR ss ps) ss.length)=(zdv ss (ygy ss ps ss.length) (ygv ss ps ss.length) ss.length).1:=by rw [hbs];rfl
 rw [←hnowe] at htr;cases hb:zf9 ss (zc7 ss (ygy ss ps ss.length,ygt ss (bsR ss ps) ss.length)) with
 | false =>rw [hb] at htr;(repeat' (first|refine sx ?_|refine aS fun P9 h9=>?_|refine aB fun P9 _ _ _ _=>?_|refine yhq ?_|(refine s2 ?_ ?_<;>intro h7<;>try omega)));refine fe ?_;rfl
 | true =>
   rw [hb] at htr;have hlen:=ygw ss ps ss.length;have hsum2:=fun k a hk=>yhz (bs:=bsR ss ps) hg hlen hwok hb k a hk;have hhist:=yhu (bs:=bsR ss ps) hg hlen hwok hb;have hcons:=ygz hg (zc7 ss (ygy ss ps ss.length,ygt ss (bsR ss ps) ss.length)) ss.length (kac _);have hle:=fun k a=>zpf ss (zc7 ss (ygy ss ps ss.length,ygt ss (bsR ss ps) ss.length)) k a (by rw [hnowe];exact zma _ _ _ hwok _) ss.length
   have hbl:=fun i (hi:i<ss.length)=>yhs ps hi;have hwget:=fun i (hi:i<ss.length)=>yhc ss ps hi;have hgget:=fun i (hi:i<ss.length)=>yhl ss ps hi;clear hre;have hre:=yhv (G:=zch u) most ss ms ps hp hn hg.slip;clear hnowe hbs hwok;generalize (zc7 ss (ygy ss ps ss.length,ygt ss (bsR ss ps) ss.length))=now at *;generalize ygv ss ps ss.length=sg at *;generalize hwr:ygy ss ps ss.length=wr at *
   generalize bsR ss ps=bs at *;have hn2:(ygu ss wr bs ss.length).length≤20:=by rw [ygs];exact hn
   have hn6:=hg.nss;have hS:∀(k a:Int),zc8 k a=0→AFn (cx (zch u)) 11 [.agg [vi most,.sl 7 ((ygu ss wr bs ss.length).map Slip.row),.val (.slice none 0 0)],vi k,vi a] (.tup [.agg [vi (zbo ss now k.toNat a ss.length),vi (zbo ss now k.toNat a ss.length)],vi 0]):=fun k a hk=>by
    have h:=sum_a (u:=u) most (ygu ss wr bs ss.length) [] k a hn2 (by simp);rw [hsum2 k a hk] at h;exact zsx h fun I w vs _ h=>by obtain⟨v1,vs1,rfl,h1,h2⟩:=h.inv;exact h2.cons (yhw h1)
   have hH:AFn (cx (zch u)) 24 [.agg [vi most,.sl 7 ((ygu ss wr bs ss.length).map Slip.row),.val (.slice none 0 0)]] (.tup [vi 1,vi 0]):=by have h:=zkg (u:=u) most (ygu ss wr bs ss.length) [] hn2 (by simp);rw [hhist] at h;exact zsx h fun I w vs _ h=>by obtain⟨v1,vs1,rfl,h1,h2⟩:=h.inv;exact h2.cons (yhw h1)
   have hle6:∀k a,-5994≤zbo ss now k a ss.length∧zbo ss now k a ss.length≤5994:=fun k a=>by have:=hle k a;omega
   obtain⟨x0,hx0⟩:∃x,zbo ss now 0 0 ss.length=x:=⟨_,rfl⟩;obtain⟨x3,hx3⟩:∃x,zbo ss now 3 0 ss.length=x:=⟨_,rfl⟩;obtain⟨x4,hx4⟩:∃x,zbo ss now 4 0 ss.length=x:=⟨_,rfl⟩;obtain⟨f2,hf2⟩:∃f:Nat→Int,∀i,f i=zbo ss now 2 (i:Int) ss.length:=⟨fun i=>zbo ss now 2 (i:Int) ss.length,fun _=>rfl⟩;obtain⟨f1,hf1⟩:∃f:Nat→Int,∀i,f i=zbo ss now 1 (i:Int) ss.length:=⟨fun i=>zbo ss now 1 (i:Int) ss.length,fun _=>rfl⟩
   have hb0:=hle6 0 0;have hb3:=hle6 3 0;have hb4:=hle6 4 0;have hb2:∀i,-5994≤f2 i∧f2 i≤5994:=fun i=>by rw [hf2];exact hle6 _ _
   have hb1:∀i,-5994≤f1 i∧f1 i≤5994:=fun i=>by rw [hf1];exact hle6 _ _
   rw [hx0] at hb0;rw [hx3] at hb3;rw [hx4] at hb4;have hS0:=hS 0 0 (by decide);have hS3:=hS 3 0 (by decide);have hS4:=hS 4 0 (by decide);have hS2:∀i:Nat,i≤3→_:=fun i hi=>hS 2 (i:Int) (by rcases(show i=0∨i=1∨i=2∨i=3 by omega) with rfl|rfl|rfl|rfl<;>decide);have hS1:∀i:Nat,i≤4→_:=fun i hi=>hS 1 (i:Int) (by rcases(show i=0∨i=1∨i=2∨i=3∨i=4 by omega) with rfl|rfl|rfl|rfl|rfl<;>decide)
   rw [show(0:Int).toNat=0 from rfl,hx0] at hS0;rw [show(3:Int).toNat=3 from rfl,hx3] at hS3;rw [show(4:Int).toNat=4 from rfl,hx4] at hS4;simp only [show(2:Int).toNat=2 from rfl,←hf2] at hS2;simp only [show(1:Int).toNat=1 from rfl,←hf1] at hS1;have e2:yhb f2 4=x0+x3:=by have h:=hcons.1;rw [hx0,hx3] at h;rw [h];simp only [yhb,hf2];simp
   have e1:yhb f1 5=yhb f2 4+x4:=by have h:=hcons.2;rw [hx4] at h;simp only [yhb,hf2,hf1];simp at h ⊢;exact h.symm
   have hc1:decide (x0+x3=yhb f2 4)=true:=decide_eq_true e2.symm;have hc2:decide (yhb f2 4+x4=yhb f1 5)=true:=decide_eq_true e1.symm;have hz0:decide (x0=x0)=true:=by simp
   have hz3:decide (x3=x3)=true:=by simp
   have hz4:decide (x4=x4)=true:=by simp
   clear hcons hle hle6 hsum2 hhist hS;have hcap:(ss.map Slip.row).length≤1000000000:=by simp;omega
   (repeat' (first|refine sx ?_|refine aS fun P9 h9=>?_|refine aB fun P9 _ _ _ _=>?_|refine yhq ?_|(refine s2 ?_ ?_<;>intro h7<;>try omega)));have h0:(ygu ss wr bs 0).map Slip.row=ss.map Slip.row:=by rw [yhn]
   have h00:((zae ss 0).length:Int)=0:=rfl;refine zam ss.length (fun i=>[(2*5,.av (.ptr 5 0)),(2*5+1,.cells 47 [.sl 1 (il wr),.sl 1 (bl sg)]),(2*6,.av (.ptr 6 0)),(2*6+1,.cells 25 [vi most,.own 45,.val (.slice none 0 0)]),(2*45+1,.buf 7 54 ((ygu ss wr bs i).map Slip.row)),(2*8,.av (vi ((zae ss i).length:Int))),(2*9,.av (vi i))]) ?_ ?_
   ·exact si
   ·intro i hi;have hfl:((ygu ss wr bs i).map Slip.row).length=ss.length:=by rw [ka6,ygs]
    rcases kae i ss.length with hlt|hge
    ·have hget:=yg5 (wr:=wr) (bs:=bs) (n:=i) hlt;rw [if_neg (by omega)] at hget;have hsuc:=yho (wr:=wr) (bs:=bs) hlt;have hgr:(ygu ss wr bs i)[i]?=some (ss.getD i d7):=by
      rw [kaa (by rw [ygs];exact hlt),←hget,kai,kaa (by rw [ygs];exact hlt)];rfl
     have hw:=hwget i hlt;have hwD:wr.getD i 0=yhh (ss.getD i d7) (ygr ps i):=by rw [kai,hw];rfl
     have hsg:=hgget i hlt;have hfx:=zbn ss i;have hf6:=zfi ss i;rw [hwD,hbl i hlt] at hsuc;generalize yhh (ss.getD i d7) (ygr ps i)=wv at hw hsuc;generalize yg4 (ss.getD i d7) (ygr ps i)=bv at hsg hsuc;have hkd:(ss.getD i ⟨0,0,0,0,0,0,0⟩).kind=(ss.getD i d7).kind:=rfl;rw [hkd] at hfx;generalize ss.getD i d7=s at hgr hsuc hsg hfx
     have hrow:((ygu ss wr bs i).map Slip.row)[i]?=some s.row:=by rw [kaq,hgr];rfl
     have hil:i<((ygu ss wr bs i).map Slip.row).length:=by omega
     have hd:decide ((i:Int)<(((ygu ss wr bs i).map Slip.row).length:Int))=true:=decide_eq_true (by omega);have hwr2:(il wr)[i]?=some [vi wv]:=zcm hw;have hwl:i<(il wr).length:=(kab.1 hwr2).1;have hrow1:(((ygu ss wr bs i).map Slip.row).set i (spl s.row (0+4) [vi wv,vi wv]))[i]?=some (spl s.row (0+4) [vi wv,vi wv]):=by rw [kc5 hil]
     have hil1:i<(((ygu ss wr bs i).map Slip.row).set i (spl s.row (0+4) [vi wv,vi wv])).length:=by rw [kcz];exact hil
     have hi1:vi ((i+1:Nat):Int)=vi ((i:Int)+1):=by simp
     by_cases h5:s.kind=5
     ·have hd5:decide (s.kind=5)=true:=decide_eq_true h5;rw [if_pos h5] at hfx;have hfl1:vi ((zae ss (i+1)).length:Int)=vi (((zae ss i).length:Int)+1):=by rw [hfx];simp
      have hsg2:(bl sg)[(zae ss i).length]?=some [vb bv]:=z8h (hsg h5);have hsl:(zae ss i).length<(bl sg).length:=(kab.1 hsg2).1;have hrow2:((((ygu ss wr bs i).map Slip.row).set i (spl s.row (0+4) [vi wv,vi wv])).set i (spl (spl s.row (0+4) [vi wv,vi wv]) (0+6) [vi 2]))[i]?=some (spl (spl s.row (0+4) [vi wv,vi wv]) (0+6) [vi 2]):=by rw [kc5 hil1]
      have hil2:i<((((ygu ss wr bs i).map Slip.row).set i (spl s.row (0+4) [vi wv,vi wv])).set i (spl (spl s.row (0+4) [vi wv,vi wv]) (0+6) [vi 2])).length:=by rw [kcz];exact hil1
      cases bv with
      | true =>
        have hX:((((ygu ss wr bs i).map Slip.row).set i (spl s.row (0+4) [vi wv,vi wv])).set i (spl (spl s.row (0+4) [vi wv,vi wv]) (0+6) [vi 2])).set i (spl (spl (spl s.row (0+4) [vi wv,vi wv]) (0+6) [vi 2]) (0+6) [vi 1])=(ygu ss wr bs (i+1)).map Slip.row:=by rw [List.set_set,List.set_set,←hsuc,List.map_set];simp [yg6,h5,Slip.row,spl]
        (repeat' (first|refine sx ?_|refine aS fun P9 h9=>?_|refine aB fun P9 _ _ _ _=>?_|refine yhq ?_|(refine s2 ?_ ?_<;>intro h7<;>try omega)));refine⟨hlt,?_⟩;rw [hfl1,hi1,←hX];exact si
      | false =>
        have hX:(((ygu ss wr bs i).map Slip.row).set i (spl s.row (0+4) [vi wv,vi wv])).set i (spl (spl s.row (0+4) [vi wv,vi wv]) (0+6) [vi 2])=(ygu ss wr bs (i+1)).map Slip.row:=by rw [List.set_set,←hsuc,List.map_set];simp [yg6,h5,Slip.row,spl]
        (repeat' (first|refine sx ?_|refine aS fun P9 h9=>?_|refine aB fun P9 _ _ _ _=>?_|refine yhq ?_|(refine s2 ?_ ?_<;>intro h7<;>try omega)));refine⟨hlt,?_⟩;rw [hfl1,hi1,←hX];exact si
     ·have hd5:decide (s.kind=5)=false:=decide_eq_false h5;rw [if_neg h5] at hfx;have hfl1:vi ((zae ss (i+1)).length:Int)=vi ((zae ss i).length:Int):=by rw [hfx];simp
      have hX:((ygu ss wr bs i).map Slip.row).set i (spl s.row (0+4) [vi wv,vi wv])=(ygu ss wr bs (i+1)).map Slip.row:=by rw [←hsuc,List.map_set];simp [yg6,h5,Slip.row,spl]
      (repeat' (first|refine sx ?_|refine aS fun P9 h9=>?_|refine aB fun P9 _ _ _ _=>?_|refine yhq ?_|(refine s2 ?_ ?_<;>intro h7<;>try omega)));refine⟨hlt,?_⟩;rw [hfl1,hi1,←hX];exact si
    ·have he:i=ss.length:=by omega
     subst he;have hd:decide ((ss.length:Int)<(((ygu ss wr bs ss.length).map Slip.row).length:Int))=false:=decide_eq_false (by omega);(repeat' (first|refine sx ?_|refine aS fun P9 h9=>?_|refine aB fun P9 _ _ _ _=>?_|refine yhq ?_|(refine s2 ?_ ?_<;>intro h7<;>try omega)))
     refine zam 4 (fun i=>[(2*6,.av (.ptr 6 0)),(2*6+1,.cells 25 [vi most,.own 45,.val (.slice none 0 0)]),(2*45+1,.buf 7 54 ((ygu ss wr bs ss.length).map Slip.row)),(2*10,.av (.ptr 10 0)),(2*10+1,.cells 30 [vi x0,vi x0]),(2*11,.av (vi 0)),(2*12,.av (.ptr 12 0)),(2*12+1,.cells 30 [vi x3,vi x3]),(2*13,.av (vi 0)),(2*14,.av (.ptr 14 0)),(2*14+1,.cells 30 [vi x4,vi x4]),(2*15,.av (vi 0)),(2*16,.av (vi (yhb f2 i))),(2*17,.av (vi 0)),(2*18,.av (vi i))]) ?_ ?_
     ·exact si
     ·intro i hi;rcases kae i 4 with hlt|hge
      ·have hd:decide ((i:Int)≤3)=true:=decide_eq_true (by omega);have hq:(!decide (f2 i=f2 i))=false:=by simp
       have hS2i:=hS2 i (by omega);have ha:=yhe (c:=5994) (by decide) hb2 i (by omega);have hai:=hb2 i;have hi1:vi ((i+1:Nat):Int)=vi ((i:Int)+1):=by simp
       (repeat' (first|refine sx ?_|refine aS fun P9 h9=>?_|refine aB fun P9 _ _ _ _=>?_|refine yhq ?_|(refine s2 ?_ ?_<;>intro h7<;>try omega)));refine⟨hlt,?_⟩;rw [hi1];exact si
      ·have he:i=4:=by omega
       subst he;have hd:decide (((4:Nat):Int)≤3)=false:=by decide
       (repeat' (first|refine sx ?_|refine aS fun P9 h9=>?_|refine aB fun P9 _ _ _ _=>?_|refine yhq ?_|(refine s2 ?_ ?_<;>intro h7<;>try omega)))
       refine zam 5 (fun i=>[(2*6,.av (.ptr 6 0)),(2*6+1,.cells 25 [vi most,.own 45,.val (.slice none 0 0)]),(2*45+1,.buf 7 54 ((ygu ss wr bs ss.length).map Slip.row)),(2*10,.av (.ptr 10 0)),(2*10+1,.cells 30 [vi x0,vi x0]),(2*11,.av (vi 0)),(2*12,.av (.ptr 12 0)),(2*12+1,.cells 30 [vi x3,vi x3]),(2*13,.av (vi 0)),(2*14,.av (.ptr 14 0)),(2*14+1,.cells 30 [vi x4,vi x4]),(2*15,.av (vi 0)),(2*16,.av (vi (yhb f2 4))),(2*17,.av (vi (yhb f1 i))),(2*21,.av (vi i))]) ?_ ?_
       ·exact si
       ·intro i hi;rcases kae i 5 with hlt|hge
        ·have hd:decide ((i:Int)≤4)=true:=decide_eq_true (by omega);have hq:(!decide (f1 i=f1 i))=false:=by simp
         have hS1i:=hS1 i (by omega);have ha:=yhe (c:=5994) (by decide) hb1 i (by omega);have hai:=hb1 i;have hi1:vi ((i+1:Nat):Int)=vi ((i:Int)+1):=by simp
         (repeat' (first|refine sx ?_|refine aS fun P9 h9=>?_|refine aB fun P9 _ _ _ _=>?_|refine yhq ?_|(refine s2 ?_ ?_<;>intro h7<;>try omega)));refine⟨hlt,?_⟩;rw [hi1];exact si
        ·have he:i=5:=by omega
         subst he;have hd:decide (((5:Nat):Int)≤4)=false:=by decide
         have ha:=yhe (c:=5994) (by decide) hb2 4 (by omega);(repeat' (first|refine sx ?_|refine aS fun P9 h9=>?_|refine aB fun P9 _ _ _ _=>?_|refine yhq ?_|(refine s2 ?_ ?_<;>intro h7<;>try omega)));refine fe ?_;rfl
end
end Go.Ab.J
namespace Go.Ab.J
open Go
theorem rNil{E:Env}{w:World}:yf1 E w [] []:=yf1.nil _ _
end Go.Ab.J
