/- For every book, whatever was written and whichever sums are false, the function SalesAsked answers true, whatever other goroutines do, and leaves its arguments as they were. Conditions: those of the given row. -/
import Derived.Test.YtdhnjafnodoeiaaGreatDoorHKe
import Derived.Calls
import Derived.ChangeKeysEq
import Derived.Conc.AppendWalk
import Derived.Conc.AtomicLaws2
import Derived.Conc.Beside
import Derived.Conc.ClockLaws
import Derived.Conc.CompanyDraw
import Derived.Conc.CompanyMem
import Derived.Conc.HoldsTime
import Derived.Conc.LockJoin
import Derived.Conc.MarkLaws
import Derived.Conc.MuStops
import Derived.Conc.Own
import Derived.Conc.SmallLaws
import Derived.Conc.Starve
import Derived.Conc.WgArith
import Derived.Great.BuildSlice
import Derived.Great.FillDense
import Derived.KernelRfl
import Derived.LaidHandle
import Derived.LaidMore
import Derived.Laws.BitsLemmas
import Derived.Laws.LoneSync
import Derived.Laws.OwnMore
import Derived.Laws.Sem
import Derived.Laws.StructEq
import Derived.LoopNIn
import Derived.MapKept
import Derived.Maps.AppendAt
import Derived.OpenShut
import Derived.OwnWalkIn
import Derived.RangeFuncBound
import Derived.RangeFuncCalls
import Derived.RangeFuncLeaves
import Derived.RangeFuncNested
import Derived.RangeFuncRecord
import Derived.Shelf.Abstract
import Derived.TacticsInMore
import Derived.Test.YtdhnjafnodoeiaaGreatDoorProg
import Derived.WalkKit
namespace Go.Ab.J
open Go Go.Proofs Go.Kp Go.ChangeShapes Go.WideShapes Go.ChangeAt Go.RowKit
section
variable{H:Type}{enc:TypeId×Value→H}{P:Program}{w:World}{base:Nat}{sp:Nat→Bool}{held:Bool}
end
section
variable{H:Type}{enc:TypeId×Value→H}{w:World}{base:Nat}{sp:Nat→Bool}{held:Bool}
end
theorem zx7{w:World}{b:Nat}(h:zd0 w b):b<w.heap.size:=by obtain⟨c,t,f,h⟩:=h;exact(kad.1 h).1
end Go.Ab.J
namespace Go.Ab.J
open Go Go.Proofs Go.Kp
def sgR(ss:List Slip)(sg:List Bool)(n:Nat):List Bool:=(zae ss n).map fun j=>sg.getD j.toNat false
def toR(ss:List Slip)(p:zd6):zfo:=(p.1.take ss.length,sgR ss p.2 ss.length)
theorem z1u(ss:List Slip)(n:Nat):∀j∈zae ss n,0≤j∧j<(n:Int):=fun j hj=>by simp only [zae,kav,kbw,ka3] at hj;obtain⟨k,⟨hk,_⟩,rfl⟩:=hj;omega
theorem zuh(ss:List Slip)(n:Nat):zae ss (n+1)=zae ss n++(if (ss.getD n d7).kind=5 then [(n:Int)] else []):=zbn ss n
theorem zzu(ss:List Slip){sg sg':List Bool}(n:Nat)(h:∀j,j<n→sg.getD j false=sg'.getD j false):sgR ss sg n=sgR ss sg' n :=
 kcn fun j hj=>by have:=z1u ss n j hj;exact h _ (by omega)
theorem zd1(ss:List Slip)(sg:List Bool)(n:Nat):sgR ss sg (n+1)=sgR ss sg n++(if (ss.getD n d7).kind=5 then [sg.getD n false] else []):=by unfold sgR;rw [zuh,kbt];congr 1;split<;>simp
theorem zew{α:Type}(l:List α)(i j:Nat)(x d:α)(hi:i<l.length):(l.set i x).getD j d=if j=i then x else l.getD j d:=by
 simp only [kai,kdc];by_cases h:i=j
 ·subst h;simp [hi]
 ·rw [if_neg h,if_neg (Ne.symm h)]
theorem z1i(ss:List Slip)(h6:ss.length≤6)(hsg:∀i,i<ss.length→(ss.getD i d7).kind≠5→(ss.getD i d7).signed=0) :
  ∀(m i:Nat) (pw:List Int) (sg:List Bool) (wr:List Int) (sr:List Bool),i+m=ss.length→pw.length=6→sg.length=6→wr=pw.take i→sr=sgR ss sg i→zhu ss m i wr sr=(zks ss m i pw sg).map (toR ss)
 | 0,i,pw,sg,wr,sr,him,hp,hs,hw,hr=>by
   have:i=ss.length:=by omega
   subst this;simp [zhu,zks,toR,hw,hr]
 | m+1,i,pw,sg,wr,sr,him,hp,hs,hw,hr=>by
   have hi6:i<6:=by omega
   simp only [zhu,zks,List.map_flatMap];congr 1;funext n;have hpw:(pw.set i n).length=6:=by simpa using hp
   have htk:wr++[n]=(pw.set i n).take (i+1):=by
    rw [hw,List.take_succ_eq_append_getElem (by omega)];congr 1
    ·rw [List.take_set];rw [List.set_eq_of_length_le (by rw [kcj];omega)]
    ·simp
   have key:∀b,sgR ss (sg.set i b) (i+1)=sr++(if (ss.getD i d7).kind=5 then [b] else []):=fun b=>by
    rw [zd1,hr];congr 1
    ·exact zzu ss i fun j hj=>by rw [zew _ _ _ _ _ (by omega),if_neg (by omega)]
    ·rw [zew _ _ _ _ _ (by omega),if_pos rfl]
   have ih:=fun b=>z1i ss h6 hsg m (i+1) (pw.set i n) (sg.set i b) (wr++[n]) _ (by omega) hpw (by simpa using hs) htk (key b).symm;by_cases h5:(ss.getD i d7).kind=5
   ·simp only [h5,if_true] at ih;simp only [h5,ne_eq,not_true_eq_false,if_false,true_and,kbt];congr 1
    ·split
     ·exact ih false
     ·rfl
    ·split
     ·exact ih true
     ·rfl
   ·have h0:=hsg i (by omega) h5;simp only [h5,if_false,kda] at ih;rw [if_pos h5,if_pos (show(ss.getD i d7).signed≠1 by rw [h0];decide),if_neg (fun h=>h5 h.1),kda];exact ih false
theorem yap{most:Int}{ss:List Slip}{ms:List SumR}(hg:Good most ss ms):∀i,i<ss.length→(ss.getD i d7).kind≠5→(ss.getD i d7).signed=0:=fun i hi h5=>by
 have hs:ss[i]?=some (ss.getD i d7):=by rw [kai,kaa hi];rfl
 exact(hg.slip i _ hs).sg0 h5
theorem zuv{most:Int}{ss:List Slip}{ms:List SumR}(hg:Good most ss ms):zds ss=(zgf ss).map (toR ss) :=
 z1i ss hg.nss (yap hg) ss.length 0 _ _ _ _ (by omega) rfl rfl rfl rfl
theorem z7v(ss:List Slip)(h6:ss.length≤6)(hf:∀i,i<ss.length→(ss.getD i d7).kind=5→0≤(ss.getD i d7).for_∧(ss.getD i d7).for_<(i:Int))(pw:List Int)(sg:List Bool)(hp:pw.length=6) :
  ∀n,n≤ss.length→∀j,(zhq ss pw sg n).getD j 0=(zdv ss (pw.take ss.length) (sgR ss sg ss.length) n).1.getD j 0
 | 0,_,j=>by
   simp only [zhq,zdv];rcases kae j 6 with h|h
   ·have:j=0∨j=1∨j=2∨j=3∨j=4∨j=5:=by omega
    rcases this with rfl|rfl|rfl|rfl|rfl|rfl<;>rfl
   ·simp [kai,kay (show([0,0,0,0,0,0]:List Int).length≤j from h)]
 | n+1,hn,j=>by
   have ih:=z7v ss h6 hf pw sg hp n (by omega);have hl:=zfy ss pw sg n;have hr:=zk3 ss (pw.take ss.length) (sgR ss sg ss.length) n;have hx:=zpp ss (pw.take ss.length) (sgR ss sg ss.length) n;have hw:(pw.take ss.length).getD n 0=pw.getD n 0:=by simp only [kai,ka5,if_pos (show n<ss.length by omega)]
   have hz:(zhq ss pw sg n).getD n 0=0:=by rw [ih,kai,kay (by omega)];rfl
   have happ:∀(x:Int) (j:Nat),((zdv ss (pw.take ss.length) (sgR ss sg ss.length) n).1++[x]).getD j 0=if j=n then x else (zdv ss (pw.take ss.length) (sgR ss sg ss.length) n).1.getD j 0:=fun x j=>by
    simp only [kai];rcases kdd j n with h|h|h
    ·rw [kam (by omega),if_neg (by omega)]
    ·subst h;rw [kao (by omega),if_pos rfl,hr];simp
    ·rw [kao (by omega),if_neg (by omega),kay (by simp;omega),kay (by omega)]
   simp only [zhq,zdv];by_cases h5:(ss.getD n d7).kind=5
   ·obtain⟨f0,f1⟩:=hf n (by omega) h5
    have hsgn:(sgR ss sg ss.length).getD (zae ss n).length false=sg.getD n false:=by
     have:∀k,n+1+k≤ss.length→(sgR ss sg (n+1+k)).getD (zae ss n).length false=sg.getD n false:=fun k=>by
      induction k with
      | zero =>intro _;rw [kb1,zd1,if_pos h5,kai,kao (by simp [sgR])];simp [sgR]
      | succ k ihk =>
        intro hk;rw [←ihk (by omega),show n+1+(k+1)=(n+1+k)+1 by omega,zd1];have hlt:(zae ss n).length<(sgR ss sg (n+1+k)).length:=by
         clear ihk hk;induction k with
         | zero=>rw [kb1,zd1,if_pos h5];simp [sgR]
         | succ k ihk=>rw [show n+1+(k+1)=(n+1+k)+1 by omega,zd1];simp;omega
        simp only [kai];rw [kam hlt]
     have:=this (ss.length-(n+1)) (by omega);rwa [show n+1+(ss.length-(n+1))=ss.length by omega] at this
    simp only [h5,if_true,hx,hsgn,hw];have hf6:(ss.getD n d7).for_.toNat<(zhq ss pw sg n).length:=by rw [hl];omega
    split
    ·rw [zew _ _ _ _ _ hf6,zew _ _ _ _ _ (by rw [kcz,kbx,hr];simp only [List.length_singleton];omega),zew _ _ _ _ _ (by rw [kbx,hr];simp),happ];by_cases e1:j=(ss.getD n d7).for_.toNat
     ·simp [e1]
     ·simp only [e1,if_false];by_cases e2:j=n
      ·rw [if_pos e2,e2];exact hz
      ·simp only [e2,if_false];exact ih j
    ·rw [zew _ _ _ _ _ (by simp [hr]),happ];by_cases e2:j=n
     ·rw [if_pos e2,e2];exact hz
     ·simp only [e2,if_false];exact ih j
   ·simp only [h5,if_false,hw];rw [zew _ _ _ _ _ (by rw [hl];omega),happ];by_cases e2:j=n
    ·simp [e2]
    ·simp only [e2,if_false];exact ih j
theorem zld{most:Int}{ss:List Slip}{ms:List SumR}(hg:Good most ss ms){i:Nat}(hi:i<ss.length):zne ss i (ss.getD i d7) :=
 hg.slip i _ (by rw [kai,kaa hi];rfl)
theorem zmb{most:Int}{ss:List Slip}{ms:List SumR}(hg:Good most ss ms)(p:zd6)(hp:p.1.length=6)(j:Nat):(zc0 ss p).getD j 0=(zc7 ss (toR ss p)).getD j 0 :=
 z7v ss hg.nss (fun i hi h5=>let h:=(zld hg hi).for5 h5;⟨h.1,h.2.1⟩) p.1 p.2 hp ss.length (kac _) j
theorem zlx(ss:List Slip){am am':List Int}(h:∀j,am.getD j 0=am'.getD j 0)(k:Nat)(a:Int)(n:Nat):zbo ss am k a n=zbo ss am' k a n:=by unfold zbo;congr 1;exact kcn fun i _=>by rw [h]
theorem zhx(ss:List Slip)(ms:List SumR){am am':List Int}(h:∀j,am.getD j 0=am'.getD j 0):zan ss ms am=zan ss ms am':=by unfold zan zao;congr 1;congr 1;funext j;simp only [zd3,zlx ss h]
theorem zup{most:Int}{ss:List Slip}{ms:List SumR}(hg:Good most ss ms){am am':List Int}(h:∀j,am.getD j 0=am'.getD j 0):∀n,n≤ss.length→∀j,(zcx ss am n).getD j 0=zc6 ss am' j n
 | 0,_,j=>by
   simp only [zcx,zc6];rcases kae j 6 with h|h
   ·have:j=0∨j=1∨j=2∨j=3∨j=4∨j=5:=by omega
    rcases this with rfl|rfl|rfl|rfl|rfl|rfl<;>rfl
   ·rw [kai,kay (show([0,0,0,0,0,0]:List Int).length≤j from h)];rfl
 | n+1,hn,j=>by
   have ih:=zup hg h n (by omega);have hl:=zm6 ss am n;have h6:=hg.nss;simp only [zcx,zc6];by_cases h3:(ss.getD n d7).kind=3
   ·obtain⟨f0,f1,_⟩:=(zld hg (show n<ss.length by omega)).for3 h3;have hf6:(ss.getD n d7).for_.toNat<(zcx ss am n).length:=by rw [hl];omega
    simp only [h3,if_true,true_and];rw [zew _ _ _ _ _ hf6];by_cases e:j=(ss.getD n d7).for_.toNat
    ·rw [if_pos e,if_pos (by omega),e,ih,h]
    ·rw [if_neg e,if_neg (by omega),ih]
   ·simp only [h3,if_false,false_and,ih]
theorem zr2{most:Int}{ss:List Slip}{ms:List SumR}(hg:Good most ss ms){am am':List Int}(h:∀j,am.getD j 0=am'.getD j 0)(hl:am'.length=ss.length)(h0:∀j,0≤am.getD j 0):zdg ss am=zf9 ss am':=by
 have h6:=hg.nss;rw [Bool.eq_iff_iff];simp only [zdg,zf9,kar,ka3,decide_eq_true_eq,hl];constructor
 ·intro hh j hj;have:=hh j (by omega);rwa [zup hg h ss.length (kac _) j,h j] at this
 ·intro hh j hj;rw [zup hg h ss.length (kac _) j];rcases kae j ss.length with hlt|hge
  ·have:=hh j hlt;rwa [←h j] at this
  ·have hz:∀n,n≤ss.length→zc6 ss am' j n=0:=fun n=>by
    induction n with
    | zero=>intro _;rfl
    | succ n ih =>
      intro hn;simp only [zc6];split
      ·rename_i h3;obtain⟨f0,f1,_⟩:=(zld hg (show n<ss.length by omega)).for3 h3.1;have:=h3.2;omega
      ·exact ih (by omega)
   rw [hz _ (kac _)];exact h0 j
def yfk(ss:List Slip)(i:Nat)(pw:List Int)(sg:List Bool):Prop :=
 ∀j,j<i→((ss.getD j d7).lo≤pw.getD j 0∧pw.getD j 0≤(ss.getD j d7).hi)∧((ss.getD j d7).kind=5→((ss.getD j d7).signed=1→sg.getD j false=true)∧((ss.getD j d7).signed=2→sg.getD j false=false))
theorem zp0(ss:List Slip)(h6:ss.length≤6):∀(m i:Nat) (pw:List Int) (sg:List Bool),i+m=ss.length→pw.length=6→sg.length=6→yfk ss i pw sg→∀p∈zks ss m i pw sg,yfk ss ss.length p.1 p.2
 | 0,i,pw,sg,him,hp,hs,hf,p,hm=>by
   simp only [zks,kcg] at hm;subst hm;have:i=ss.length:=by omega
   subst this;exact hf
 | m+1,i,pw,sg,him,hp,hs,hf,p,hm=>by
   simp only [zks,kcq,kax] at hm;obtain⟨n,hn,hm⟩:=hm;have hn':(ss.getD i d7).lo≤n∧n≤(ss.getD i d7).hi:=by change n∈zbr (ss.getD i d7).lo (ss.getD i d7).hi at hn;simp only [zbr,kav,ka3] at hn;obtain⟨j,hj,rfl⟩:=hn;omega
   have step:∀b,((ss.getD i d7).kind=5→((ss.getD i d7).signed=1→b=true)∧((ss.getD i d7).signed=2→b=false))→yfk ss (i+1) (pw.set i n) (sg.set i b):=fun b hb j hj=>by
    rw [zew _ _ _ _ _ (by omega),zew _ _ _ _ _ (by omega)];by_cases e:j=i
    ·subst e;simp only [if_true];exact⟨hn',hb⟩
    ·simp only [e,if_false];exact hf j (by omega)
   rcases hm with hm|hm
   ·split at hm
    ·rename_i h1;exact zp0 ss h6 m (i+1) _ _ (by omega) (by simpa using hp) (by simpa using hs) (step false fun _=>⟨fun h=>absurd h h1,fun _=>rfl⟩) p hm
    ·cases hm
   ·split at hm
    ·rename_i h1;exact zp0 ss h6 m (i+1) _ _ (by omega) (by simpa using hp) (by simpa using hs) (step true fun _=>⟨fun _=>rfl,fun h=>absurd h h1.2⟩) p hm
    ·cases hm
theorem z6x{most:Int}{ss:List Slip}{ms:List SumR}(hg:Good most ss ms):∀p∈zgf ss,yfk ss ss.length p.1 p.2 :=
 zp0 ss hg.nss ss.length 0 _ _ (by omega) rfl rfl fun j hj=>by omega
theorem yda(ss:List Slip)(sg:List Bool){n:Nat}(h5:(ss.getD n d7).kind=5):∀k,(sgR ss sg (n+1+k)).getD (zae ss n).length false=sg.getD n false:=fun k=>by
 have hlt:∀k,(zae ss n).length<(sgR ss sg (n+1+k)).length:=fun k=>by
  induction k with
  | zero=>rw [kb1,zd1,if_pos h5];simp [sgR]
  | succ k ihk=>rw [show n+1+(k+1)=(n+1+k)+1 by omega,zd1];simp;omega
 induction k with
 | zero =>rw [kb1,zd1,if_pos h5,kai,kao (by simp [sgR])];simp [sgR]
 | succ k ihk =>rw [←ihk,show n+1+(k+1)=(n+1+k)+1 by omega,zd1];simp only [kai];rw [kam (hlt k)]
theorem z4y{most:Int}{ss:List Slip}{ms:List SumR}(hg:Good most ss ms)(p:zd6)(hp:yfk ss ss.length p.1 p.2):zxr ss (toR ss p).1 (toR ss p).2=true:=by
 simp only [zxr,kar,ka3];intro j hj;obtain⟨h1,h2⟩:=hp j hj;have hw:(toR ss p).1.getD j 0=p.1.getD j 0:=by simp only [toR,kai,ka5,if_pos hj]
 have hk:=zld hg hj;simp only [zrm,hw,ka0,kc1,decide_eq_true_eq,kb7,decide_eq_false_iff_not,beq_iff_eq];refine⟨h1,?_⟩;by_cases h5:(ss.getD j d7).kind=5
 ·have hs:(toR ss p).2.getD (zae ss j).length false=p.2.getD j false:=by
    have:=yda ss p.2 h5 (ss.length-(j+1));rw [show j+1+(ss.length-(j+1))=ss.length by omega] at this;exact this
  rw [hs];have:=hk.sg;obtain⟨h3,h4⟩:=h2 h5;by_cases e0:(ss.getD j d7).signed=0
  ·exact .inl (.inr e0)
  ·right;by_cases e1:(ss.getD j d7).signed=1
   ·rw [h3 e1,decide_eq_true e1]
   ·rw [h4 (by omega),decide_eq_false e1]
 ·exact .inl (.inl h5)
theorem ag_eq{most:Int}{ss:List Slip}{ms:List SumR}(hg:Good most ss ms)(hlo:∀s∈ss,0≤s.lo∧s.hi≤999)(p:zd6)(hm:p∈zgf ss):zdk most ss ms (toR ss p)=agP most ss ms p:=by
 obtain⟨⟨hp,_⟩,hab⟩:=zna ss hlo p hm;have hnow:=zmb hg p hp;have hok:=zh6 ss p.1 p.2 hab ss.length;unfold zdk agP zeh;rw [z4y hg p (z6x hg p hm),←zhx ss ms hnow,←zr2 hg hnow (zb6 _ _) (fun j=>(hok j).1),zwh];simp only [Bool.true_and];cases zdg ss (zc0 ss p)<;>simp [Bool.and_comm]
theorem z1g{most:Int}{ss:List Slip}{ms:List SumR}(hg:Good most ss ms):∀s∈ss,0≤s.lo∧s.hi≤999:=fun s hs=>by obtain⟨i,hi⟩:=kba hs;have:=(hg.slip i s hi).amt;omega
theorem zg9{most:Int}{ss:List Slip}{ms:List SumR}(hg:Good most ss ms):zaj most ss ms=(zah most ss ms).map (toR ss):=by unfold zaj zah;rw [zuv hg,List.filter_map];congr 1;refine List.filter_congr fun p hp=>?_;exact ag_eq hg (z1g hg) p hp
theorem zjp(most:Int)(ss:List Slip)(ms:List SumR)(own:Int):zbt most ss ms own=zcl most ss ms own:=by
 unfold zbt zcl;by_cases hc:zak most ss ms=0
 ·have hg:=(za2 most ss ms).1 hc;simp only [hc,ne_eq,not_true_eq_false,if_false,zg9 hg,List.map_eq_nil_iff]
 ·simp [hc]
theorem zmg{most:Int}{ss:List Slip}{ms:List SumR}{own:Int}(h:zbt most ss ms own=0):Good most ss ms∧zah most ss ms≠[]:=by
 unfold zbt at h;by_cases hc:zak most ss ms=0
 ·refine⟨(za2 most ss ms).1 hc,fun e=>?_⟩;simp only [hc,ne_eq,not_true_eq_false,if_false,e,if_true] at h;split at h
  ·contradiction
  ·cases h
 ·simp only [ne_eq,hc,not_false_eq_true,if_true] at h
theorem zzn(f:Nat→Int):∀n,zh2 f (n+1)=zfu f n
 | 0=>by simp [zh2,zfu]
 | n+1=>by rw [zh2,zzn f n,zfu]
theorem zj0{p q:Nat→Bool}:∀n,(∀i,i<n→p i=q i)→zcg p n=zcg q n
 | 0,_=>rfl
 | n+1,h=>by simp only [zcg,zj0 n fun i hi=>h i (by omega),h n (by omega)]
theorem zv2(l:List Int):∀n i,i<n→zcg (za0 l i) l.length≤mostU l n
 | 0,i,h=>by omega
 | n+1,i,h=>by
   simp only [mostU];by_cases e:i=n
   ·subst e;omega
   ·have:=zv2 l n i (by omega);omega
theorem z2g(p:Nat→Bool):∀m n,m≤n→zcg p m≤zcg p n:=fun m n h=>by
 induction n with
 | zero=>have:m=0:=by omega
         subst this;exact kac _
 | succ n ih =>
   by_cases e:m=n+1
   ·subst e;exact kac _
   ·have:=ih (by omega);simp only [zcg];split<;>omega
theorem zrf(l:List Int):∀q,q≤l.length→zkr l q≤mostU l l.length
 | 0,_=>kb6 _
 | q+1,h=>by
   have h1:=zrf l q (by omega);have h2:=z2g (za0 l q) (q+1) l.length h;have h3:=zv2 l l.length q h;have h4:zcg (za0 l q) (q+1)=zcg (za0 l q) q+1:=by simp [zcg,za0]
   simp only [zkr];omega
theorem z2f(l:List Int)(i:Nat):∀m,zcg (za0 l i) m≤zkr l m
 | 0=>kac _
 | m+1=>by
   have ih:=z2f l i m;simp only [zcg,zkr];split
   ·rename_i h;have e:l.getD m 0=l.getD i 0:=by simpa [za0] using h
    have:zcg (za0 l i) m=zcg (za0 l m) m:=zj0 m fun k _=>by simp only [za0,e]
    omega
   ·omega
theorem zv1(l:List Int):∀n,n≤l.length→mostU l n≤zkr l l.length
 | 0,_=>kb6 _
 | n+1,h=>by have:=zv1 l n (by omega);have:=z2f l n l.length;simp only [mostU];omega
theorem z4k(l:List Int):zkr l l.length=mostU l l.length:=Nat.le_antisymm (zrf l _ (kac _)) (zv1 l _ (kac _))
theorem zoz{g h:Nat→Nat}(n0:Nat):∀i,(∀j,j<i→g j=h j)→zhj g n0 i=zhj h n0 i
 | 0,_=>rfl
 | i+1,hh=>by simp only [zhj,zoz n0 i fun j hj=>hh j (by omega),hh i (by omega)]
theorem yeu(most:Int)(ss:List Slip)(ms:List SumR):zyu most ss ms=znr most ss ms:=by
 unfold zyu znr;rw [zjp];by_cases hl:zcl most ss ms 0=0
 ·obtain⟨hg,hne⟩:=zmg ((zjp ..).trans hl);have hlen:(zaj most ss ms).length=(zah most ss ms).length:=by rw [zg9 hg];simp
  have hc:zhj (zj7 most ss ms) (zah most ss ms).length ss.length=zhj (zst most ss ms) (zah most ss ms).length ss.length:=zoz _ _ fun i _=>by
   have e:zql ss (zaj most ss ms) i=amtS most ss ms i:=by unfold zql amtS;rw [zg9 hg,List.map_map];exact kcn fun p hp=>(zmb hg p (ziu hg hp).1.1 i).symm
   rw [zst,zj7,e,show(zah most ss ms).length=(amtS most ss ms i).length by simp [amtS],z4k]
  simp only [hl,ne_eq,not_true_eq_false,if_false,hlen,hc]
 ·simp [hl]
end Go.Ab.J
namespace Go.Ab.J
open Go Go.Proofs Go.Kp Go.ChangeShapes Go.WideShapes Go.ChangeAt Go.RowKit
theorem u_u8:Tryz.prog.underlying 5=some (.int .u8):=by kernel_rfl
theorem u_u16:Tryz.prog.underlying 195=some (.int .u16):=by kernel_rfl
theorem c_u16:Tryz.prog.cellsOf 195=1:=by kernel_rfl
theorem yhf:Tryz.prog.underlying 44=some (.slice 195):=by kernel_rfl
theorem yim{k:Int}(h:(Lit.int .u8 k).wf=true):0≤k∧k<256:=by have h1:IntKind.min .u8=0:=rfl;have h2:IntKind.max .u8=255:=rfl;simp only [Lit.wf,ka0,decide_eq_true_eq] at h;omega
theorem yhj{k:Int}(h:(Lit.int .u16 k).wf=true):0≤k∧k<65536:=by have h1:IntKind.min .u16=0:=rfl;have h2:IntKind.max .u16=65535:=rfl;simp only [Lit.wf,ka0,decide_eq_true_eq] at h;omega
structure U16 where
 val:Nat
 isLt:val<65536
def yhx(n:U16):List Value:=[.int .u16 ((n.val:Nat):Int)]
set_option maxRecDepth 20000 in
theorem yhi{H:Type}{enc:TypeId×Value→H}{w:World}{sp:Nat→Bool}{held:Bool}{base:Nat}{v:Value}{d:DataW H}{p:List MemPlace}(hok:Value.okWide Tryz.prog w .any base 44 v)
  (h:DataW.Trod enc Tryz.prog w 0 sp held 44 v d p):∃ps:List Nat,(∀x∈ps,x<65536)∧Rep (zca (zd0 w)) w (.sl 1 (ygx ps)) v:=by
 have hv:=okWide_slice yhf hok
 unfold Value.okWide at hok
 rw [yhf] at hok
 obtain⟨a,len,cap,rfl⟩:=hv
 obtain⟨fuel,h⟩:=h
 obtain⟨ss,r1⟩:=zrh (wd:=1) (fun n=>(yhx n).map .val) yhx (fun _=>rfl) (fun _=>rfl) (fun s v hv=>by simp [yhx] at hv;subst hv;rfl) yhf hok
  (zry yhx c_u16 (fun n cs x hx=>by
    obtain⟨k,h1,_,h3⟩:=DataW.trod_int u_u16 hx;obtain⟨a,b⟩:=yhj h3;refine⟨⟨k.toNat,by omega⟩,?_⟩;rw [h1];have:((k.toNat:Nat):Int)=k:=by omega
    simp [yhx,this]) yhf h)
 refine⟨ss.map (·.val),fun x hx=>?_,?_⟩
 ·obtain⟨y,_,rfl⟩:=kav.1 hx;exact y.isLt
 ·have e:ygx (ss.map (·.val))=ss.map fun n=>(yhx n).map .val:=by simp [ygx,yhx]
  rw [e];exact r1
end Go.Ab.J
