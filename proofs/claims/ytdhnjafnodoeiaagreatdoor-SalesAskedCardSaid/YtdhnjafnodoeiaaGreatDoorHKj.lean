/- For every book, whatever was written and whichever sums are false, the function SalesAsked answers true, whatever other goroutines do, and leaves its arguments as they were. Conditions: those of the given row. -/
import Derived.Test.YtdhnjafnodoeiaaGreatDoorHKh
import Derived.Test.YtdhnjafnodoeiaaGreatDoorHKi
import Derived.AtR
import Derived.Calls
import Derived.ChangeKeysEq
import Derived.Conc.AtomicLaws2
import Derived.Conc.Beside
import Derived.Conc.ClockLaws
import Derived.Conc.CompanyDraw
import Derived.Conc.CompanyMem
import Derived.Conc.HoldsTime
import Derived.Conc.LockJoin
import Derived.Conc.MarkLaws
import Derived.Conc.MuStops
import Derived.Conc.Own
import Derived.Conc.Starve
import Derived.Conc.WgArith
import Derived.Great.BuildSlice
import Derived.Great.FillDense
import Derived.Laws.CopyRow
import Derived.Laws.MakeOwn
import Derived.Laws.OwnMore
import Derived.Laws.Sem
import Derived.Laws.StructEq
import Derived.LoopNIn
import Derived.MapKept
import Derived.Maps.AppendAt
import Derived.OwnWalkIn
import Derived.RangeFuncBound
import Derived.RangeFuncCalls
import Derived.RangeFuncLeaves
import Derived.RangeFuncNested
import Derived.RangeFuncRecord
import Derived.Shelf.Abstract
import Derived.TacticsInMore
import Derived.Test.YtdhnjafnodoeiaaGreatDoorProg
import Derived.WalkKit
namespace Go.Ab.J
open Go Go.Proofs Go.Kp
theorem yj7{lo hi n:Int}(h:lo≤n∧n≤hi):n∈zbr lo hi:=by simp only [zbr,kav,ka3];exact⟨(n-lo).toNat,by omega,by omega⟩
theorem yju{ss:List Slip}(ps:List Nat)(hok:∀i,i<ss.length→(ss.getD i d7).lo≤(ss.getD i d7).hi) :
  ∀m i,i+m=ss.length→(ygy ss ps ss.length,ygv ss ps ss.length)∈zhu ss m i (ygy ss ps i) (ygv ss ps i)
 | 0,i,h=>by
   have:i=ss.length:=by omega
   subst this;simp [zhu]
 | m+1,i,h=>by
   have ih:=yju ps hok m (i+1) (by omega);have hk:=hok i (by omega);obtain⟨a,b⟩:=yhp (ygr ps i) ((ss.getD i d7).hi-(ss.getD i d7).lo+1) (by omega);simp only [zhu];rw [kcq];refine⟨yhh (ss.getD i d7) (ygr ps i),yj7 (by unfold yhh;omega),?_⟩;simp only [ygy,ygv] at ih;by_cases h5:(ss.getD i d7).kind=5
   ·rw [if_pos h5] at ih;rw [if_neg (by simpa using h5),kax];cases hb:yg4 (ss.getD i d7) (ygr ps i) with
    | false =>
      rw [hb] at ih;left;rw [if_pos]
      ·exact ih
      ·intro h1;rw [yg4,if_pos h1] at hb;cases hb
    | true =>
      rw [hb] at ih;right;rw [if_pos]
      ·exact ih
      ·intro h1;rw [yg4,if_neg (by omega),if_neg (by omega)] at hb;cases hb
   ·rw [if_neg h5] at ih;rw [if_pos h5];exact ih
def yji(most q:Int)(ss:List Slip)(now:List Int)(ms:List SumR)(j:Nat):SumR:=if yjb most q j (yja most q ss now ms j).2 (ms.getD j d5) then ms.getD j d5 else yjn (ms.getD j d5) (yjg ss now (ms.getD j d5))
theorem yjf(most q:Int)(ss:List Slip)(now:List Int)(ms:List SumR):∀n,(yja most q ss now ms n).1=(List.range n).map (yji most q ss now ms)
 | 0=>rfl
 | n+1=>by rw [kdp,kbt,←yjf most q ss now ms n];simp only [yja,yji,kbq,List.map_nil];split<;>rfl
theorem yjp{most q:Int}{ss:List Slip}{now:List Int}{ms:List SumR}{n j:Nat}(h:j<n):(yja most q ss now ms n).1.getD j d5=yji most q ss now ms j:=by rw [yjf];simp [kai,kaq,List.getElem?_range h]
theorem yje{most q:Int}{ss:List Slip}{now:List Int}{ms:List SumR}(hl:now.length=ss.length)(j:Nat):zd3 ss now (yji most q ss now ms j)=(yjb most q j (yja most q ss now ms j).2 (ms.getD j d5)&&!decide ((ms.getD j d5).lo≤yjg ss now (ms.getD j d5)∧yjg ss now (ms.getD j d5)≤(ms.getD j d5).hi)):=by
 unfold yji;cases yjb most q j (yja most q ss now ms j).2 (ms.getD j d5) with
 | true=>simp [zd3,yjg,hl]
 | false =>simp only [zd3,yjn,yjg,hl,Bool.false_and,kbd,if_false,Bool.not_eq_false',decide_eq_true_eq];omega
theorem yjk{most q:Int}{ss:List Slip}{now:List Int}{ms:List SumR}(hl:now.length=ss.length):∀n:Nat,((((List.range n).filter fun j=>zd3 ss now (yji most q ss now ms j)).length:Nat):Int)=(yja most q ss now ms n).2
 | 0=>rfl
 | n+1=>by
   have ih:=yjk (most:=most) (q:=q) (ms:=ms) hl n;rw [kdp,kch,kbx];have hf:=yje (most:=most) (q:=q) (ms:=ms) hl n;simp only [yja];cases hm:yjb most q n (yja most q ss now ms n).2 (ms.getD n d5) with
   | false=>rw [hm] at hf;simp [hf,kdk];omega
   | true =>
     rw [hm] at hf;by_cases hin:(ms.getD n d5).lo≤yjg ss now (ms.getD n d5)∧yjg ss now (ms.getD n d5)≤(ms.getD n d5).hi
     ·rw [decide_eq_true hin] at hf;rw [if_pos rfl,if_pos hin];simp only [Bool.not_true,Bool.and_false] at hf;simp [hf,kdk];omega
     ·rw [decide_eq_false hin] at hf;rw [if_pos rfl,if_neg hin];simp only [Bool.not_false,Bool.and_true] at hf;simp [hf,kdk];omega
theorem yjo{most q:Int}{ss:List Slip}{now:List Int}{ms:List SumR}(h0:0≤most):∀n,(yja most q ss now ms n).2≤most
 | 0=>h0
 | n+1=>by
   have ih:=yjo (q:=q) (ss:=ss) (now:=now) (ms:=ms) h0 n;simp only [yja];split
   ·rename_i h;simp only [yjb,ka0,decide_eq_true_eq] at h;split<;>simp only<;>omega
   ·exact ih
theorem yjj{most q:Int}{ss:List Slip}{now:List Int}{ms:List SumR}(hl:now.length=ss.length):zan ss (yja most q ss now ms ms.length).1 now=((List.range ms.length).filter fun j=>zd3 ss now (yji most q ss now ms j)).map fun j:Nat=>(j:Int):=by
 unfold zan zao;rw [yjc];congr 1;refine List.filter_congr fun j hj=>?_;have e:(yja most q ss now ms ms.length).1.getD j ⟨0,0,0,0,false⟩=yji most q ss now ms j:=yjp (ka3.1 hj);rw [e]
theorem yj1{most q:Int}{ss:List Slip}{now:List Int}{ms:List SumR}(hg:Good most ss ms)(hl:now.length=ss.length)(ha:zhn now):Good most ss (yja most q ss now ms ms.length).1 where
 most:=hg.most
 nss:=hg.nss
 slip:=hg.slip
 fix:=hg.fix
 nms:=by rw [yjc];exact hg.nms
 sum:=fun m hm=>by
  rw [yjf] at hm;obtain⟨j,hj,rfl⟩:=kav.1 hm;have hj:=ka3.1 hj;have hmem:ms.getD j d5∈ms:=by rw [kai,kaa hj];exact kbf hj
  have h:=hg.sum _ hmem;unfold yji;split
  ·exact h
  ·have hb:=zpf ss now (ms.getD j d5).kind.toNat (ms.getD j d5).a ha now.length;have h6:=hg.nss;obtain⟨h1,h2,h3,h4,h5⟩:=h;refine⟨h1,h2,?_⟩;simp only [yjn,yjg];omega
theorem yj0{most q:Int}{ss:List Slip}{ms:List SumR}(ps:List Nat)(hg:Good most ss ms)(hb:zf9 ss (zc7 ss (ygy ss ps ss.length,ygv ss ps ss.length))=true) :
  (ygy ss ps ss.length,ygv ss ps ss.length)∈zaj most ss (yja most q ss (zc7 ss (ygy ss ps ss.length,ygv ss ps ss.length)) ms ms.length).1:=by
 have hl:=zb6 ss (ygy ss ps ss.length,ygv ss ps ss.length)
 have hal:(ygy ss ps ss.length,ygv ss ps ss.length)∈zds ss:=by have h:=yju (ss:=ss) ps (fun i hi=>(zld hg hi).amt.2.1) ss.length 0 (by omega);exact h
 have hposs:zxr ss (ygy ss ps ss.length) (ygv ss ps ss.length)=true:=by have h:=hal;rw [zuv hg] at h;obtain⟨p,h1,h2⟩:=kav.1 h;have:=z4y hg p (z6x hg p h1);rwa [h2] at this
 refine kbw.2 ⟨hal,?_⟩
 have hcount:=yjk (most:=most) (q:=q) (ms:=ms) hl ms.length
 have hmost:=yjo (q:=q) (ss:=ss) (now:=zc7 ss (ygy ss ps ss.length,ygv ss ps ss.length)) (ms:=ms) hg.most.1 ms.length
 unfold zdk
 rw [←zwh]
 simp only [hposs,hb,Bool.true_and,ka0,decide_eq_true_eq]
 refine⟨?_,(yf7 _ _).2 fun x hx=>?_⟩
 ·rw [yjj hl,ka6,hcount];exact hmost
 ·rw [yjj hl] at hx;obtain⟨j,hj,rfl⟩:=kav.1 hx;obtain⟨h1,h2⟩:=kbw.1 hj;rw [kb9,yjp (ka3.1 h1)];rw [yje hl,ka0] at h2;have h3:=h2.1;unfold yji;rw [h3,if_pos rfl];simp only [yjb,ka0,kb7] at h3;exact h3.2
theorem yjh(g:Nat→Nat)(n0:Nat):∀i,((zhj g n0 i).1=-1∧(zhj g n0 i).2=n0∧∀j,j<i→n0≤g j)∨∃j,j<i∧(zhj g n0 i).1=(j:Int)∧(zhj g n0 i).2=g j∧g j<n0
 | 0=>.inl ⟨rfl,rfl,fun j h=>by omega⟩
 | i+1=>by
   simp only [zhj];by_cases h:g i<(zhj g n0 i).2
   ·rw [if_pos h];right;refine⟨i,by omega,rfl,rfl,?_⟩;rcases yjh g n0 i with ⟨_,h2,_⟩|⟨j,_,_,h2,h3⟩<;>omega
   ·rw [if_neg h];rcases yjh g n0 i with ⟨h1,h2,h3⟩|⟨j,h1,h2,h3,h4⟩
    ·left;refine⟨h1,h2,fun j hj=>?_⟩;by_cases e:j=i
     ·subst e;omega
     ·exact h3 j (by omega)
    ·exact .inr ⟨j,by omega,h2,h3,h4⟩
theorem yjw{p:Nat→Bool}{i:Nat}:∀{n},i<n→p i=true→0<zcg p n
 | 0,h,_=>by omega
 | n+1,h,hp=>by
   simp only [zcg];split
   ·omega
   ·rename_i hn;exact yjw (by
     rcases kae i n with h1|h1
     ·exact h1
     ·have:i=n:=by omega
      subst this;rw [hp] at hn;exact absurd rfl hn) hp
theorem yjx{p:Nat→Bool}:∀{n},zcg p n=n→∀i,i<n→p i=true
 | n+1,h,i,hi=>by
   have hle:=zjz p n;simp only [zcg] at h;split at h
   ·rename_i hp;rcases kae i n with h1|h1
    ·exact yjx (by omega) i h1
    ·have:i=n:=by omega
     subst this;exact hp
   ·omega
theorem yj3{p q:Nat→Bool}:∀n,(∀i,i<n→p i=q i)→zcg p n=zcg q n
 | 0,_=>rfl
 | n+1,h=>by simp only [zcg,h n (by omega),yj3 n fun i hi=>h i (by omega)]
theorem yjr{p:Nat→Bool}:∀n,(∀i,i<n→p i=true)→zcg p n=n
 | 0,_=>rfl
 | n+1,h=>by simp only [zcg,h n (by omega),yjr n fun i hi=>h i (by omega),if_true]
theorem yjv(l:List Int):∀n,0<mostU l n→∃i,i<n∧mostU l n=zcg (za0 l i) l.length
 | 0,h=>by simp [mostU] at h
 | n+1,h=>by
   simp only [mostU] at h ⊢;rcases Nat.le_total (mostU l n) (zcg (za0 l n) l.length) with h1|h1
   ·exact⟨n,by omega,by omega⟩
   ·rw [Nat.max_eq_left h1] at h ⊢;obtain⟨i,a,b⟩:=yjv l n h;exact⟨i,by omega,b⟩
theorem yj8{l:List Int}{h0:Nat}(hh:h0<l.length):0<zcg (za0 l h0) l.length∧zcg (za0 l h0) l.length≤mostU l l.length∧mostU l l.length≤l.length∧(l.length≤mostU l l.length→zcg (za0 l h0) l.length=l.length):=by
 refine⟨yjw hh (by simp [za0]),zv2 l _ _ hh,yjm l _,fun h=>?_⟩;obtain⟨i,hi,e⟩:=yjv l l.length (by omega);have hle:=yjm l l.length;have hall:=yjx (p:=za0 l i) (n:=l.length) (by omega);refine yjr _ fun k hk=>?_;have a:=hall k hk;have b:=hall h0 hh;simp only [za0,decide_eq_true_eq] at a b ⊢;rw [a,b]
section
variable{G:zbf}{u:Nat→ByteArray}
attribute [local irreducible] AOp AW ADr AFn ze1 AFt AOpJ
set_option maxRecDepth 20000
set_option maxHeartbeats 16000000
theorem yj5{P G:Prop}(n:P)(h:Go.Kp.Wr P→G:=by(intro n;first|((with_reducible apply kC);first|exact gB ⟨_,ygp _ _ _,.mk rfl n.p⟩|exact gB ⟨_,hsum,.mk rfl n.p⟩|exact gB ⟨_,hre,.mk rfl n.p⟩|exact gB ⟨_,htr,.mk rfl n.p⟩|exact gB ⟨_,hask,.mk rfl n.p⟩|exact gB ⟨_,hha,.mk rfl n.p⟩|exact gB ⟨_,zv8 _ _ _,.mk rfl n.p⟩|exact gB ⟨_,hpo,.mk rfl n.p⟩|exact gB ⟨_,hno,.mk rfl n.p⟩|exact gB ⟨_,hnp,.mk rfl n.p⟩|exact gK n.p|exact gS n.p)|exact⟨_,ygp _ _ _,n.p⟩|exact⟨_,hsum,n.p⟩|exact⟨_,hre,n.p⟩|exact⟨_,htr,n.p⟩|exact⟨_,hask,n.p⟩|exact⟨_,hha,n.p⟩|exact⟨_,zv8 _ _ _,n.p⟩|exact⟨_,hpo,n.p⟩|exact⟨_,hno,n.p⟩|exact⟨_,hnp,n.p⟩|exact sk n.p|exact ap n.p)):G:=h ⟨n⟩
theorem yj4(u:Nat→ByteArray)(hsum:AFn (cx (zch u)) 10 [] (vb true))(most:Int)(ss:List Slip)(ms:List SumR)(ps:List Nat)(q:Int)(hp:∀x∈ps,x<65536)(hq0:0≤q)(hq1:q<256) :
  Top (cx (zch u)) 6 [bk most ss ms,.sl 1 (ygx ps),.val (.int .u8 q)] (vb true):=by
 refine top_by Tryz.func6 (by kernel_rfl) rfl Tryz.ntmps6 rfl rfl ?_ rfl
 refine zab fun Q hQ=>?_
 by_cases hfit:(ss.length≤20∧ms.length≤20)∧zak most ss ms=0
 case neg =>have hd1:decide ((ss.length≤20∧ms.length≤20)∧zak most ss ms=0)=false:=decide_eq_false hfit;(repeat' (first|refine sx ?_|refine aS fun P9 h9=>?_|refine aB fun P9 _ _ _ _=>?_|refine yj5 ?_|(refine s2 ?_ ?_<;>intro h7<;>try omega)));refine fe ?_;rfl
 have hd1:decide ((ss.length≤20∧ms.length≤20)∧zak most ss ms=0)=true:=decide_eq_true hfit
 obtain⟨⟨hn,hm⟩,hc⟩:=hfit
 have hg:=(za2 most ss ms).1 hc
 have hre:=yhv (G:=zch u) most ss ms ps hp hn hg.slip
 have hwok:=yht hg ps
 have hwl:=ygw ss ps ss.length
 have hsl:=yg0 ss ps ss.length
 have htr:=yj6 (G:=zch u) most ss ms (ygy ss ps ss.length) (ygv ss ps ss.length) (zc7 ss (ygy ss ps ss.length,ygv ss ps ss.length)) q ⟨hq0,hq1⟩ hn hm hg.slip hwl hsl rfl (zma _ _ _ hwok _) hg.k0
 cases hb:zf9 ss (zc7 ss (ygy ss ps ss.length,ygv ss ps ss.length)) with
 | false =>rw [hb] at htr;(repeat' (first|refine sx ?_|refine aS fun P9 h9=>?_|refine aB fun P9 _ _ _ _=>?_|refine yj5 ?_|(refine s2 ?_ ?_<;>intro h7<;>try omega)));refine fe ?_;rfl
 | true =>
   rw [hb] at htr;have hnl:=zb6 ss (ygy ss ps ss.length,ygv ss ps ss.length);have hmem:=yj0 (q:=q) ps hg hb;have hg':=yj1 (q:=q) hg hnl (zma _ _ _ hwok _);have hm':(yja most q ss (zc7 ss (ygy ss ps ss.length,ygv ss ps ss.length)) ms ms.length).1.length≤20:=by rw [yjc];exact hm
   have hno:=zey (G:=zch u) most ss (yja most q ss (zc7 ss (ygy ss ps ss.length,ygv ss ps ss.length)) ms ms.length).1 (ygy ss ps ss.length) (ygv ss ps ss.length) hn hg.slip hwl hsl;have hnQ:(zdv ss (ygy ss ps ss.length) (ygv ss ps ss.length) ss.length).1=zc7 ss (ygy ss ps ss.length,ygv ss ps ss.length):=rfl;rw [hnQ] at hno
   generalize (yja most q ss (zc7 ss (ygy ss ps ss.length,ygv ss ps ss.length)) ms ms.length).1=ms' at htr hmem hg' hm' hno;have hc':=(za2 _ _ _).2 hg';have hpo:=zro (G:=zch u) hg';have hha:=zkg (u:=u) most ss ms' hn hm';have hN:zr3 most ss ms'=(((zaj most ss ms').length:Int),0):=by rw [zg9 hg',ka6];simp [zr3,hc']
   rw [hN] at hha;have hask:=ask_a (u:=u) most ss ms' hn hm';have hne:zaj most ss ms'≠[]:=fun h=>by rw [h] at hmem;cases hmem
   have hl0:zcl most ss ms' 0=0:=by simp [zcl,hc',hne]
   rw [yeu,znr,if_neg (by simp [hl0])] at hask;have hok:=fun p hp=>zd5 hg' (p:=p) hp;obtain⟨h0,hh0⟩:=kba hmem;have hpl:=zjl hg';have hspec:=yjh (zst most ss ms') (zaj most ss ms').length ss.length;have hG:∀i,zst most ss ms' i=mostU (zql ss (zaj most ss ms') i) (zql ss (zaj most ss ms') i).length:=fun _=>rfl;generalize zst most ss ms'=g at hask hspec hG
   generalize zaj most ss ms'=P at hpo hha hask hok hh0 hpl hspec hG;generalize zhj g P.length ss.length=r at hask hspec;obtain⟨slip,left⟩:=r;dsimp only at hask hspec;have hPl:h0<P.length:=(kab.1 hh0).1;have hLl:∀i,(zql ss P i).length=P.length:=fun i=>by simp [zql]
   have hL0:∀i,(zql ss P i).getD h0 0=(zc7 ss (ygy ss ps ss.length,ygv ss ps ss.length)).getD i 0:=fun i=>by simp [zql,kai,kaq,hh0]
   have hK:=fun i=>yj8 (l:=zql ss P i) (h0:=h0) (by rw [hLl];exact hPl);simp only [hLl] at hK hG;simp only [←hG] at hK;have hrp:(rp P).length=P.length:=by simp
   have hsr:((ss.map Slip.row).length:Int)=(ss.length:Int):=by simp
   have hj0:0<ss.length→True:=fun _=>trivial;have hin1:decide (-1≤slip∧slip≤((ss.map Slip.row).length:Int)-1)=true:=decide_eq_true (by rcases hspec with ⟨h1,_,_⟩|⟨j,hj,h1,_,_⟩<;>omega);have hin2:decide (1≤(left:Int)∧(left:Int)≤(P.length:Int))=true:=decide_eq_true (by
    rcases hspec with ⟨_,h2,_⟩|⟨j,hj,_,h2,h3⟩
    ·omega
    ·have:=hK j;omega)
   have hbe:(decide (slip<0) == decide ((left:Int)=(P.length:Int)))=true:=by
    rcases hspec with ⟨h1,h2,_⟩|⟨j,hj,h1,h2,h3⟩
    ·rw [decide_eq_true (show slip<0 by omega),decide_eq_true (show(left:Int)=(P.length:Int) by omega)];rfl
    ·rw [decide_eq_false (show ¬slip<0 by omega),decide_eq_false (show ¬(left:Int)=(P.length:Int) by omega)];rfl
   generalize zc7 ss (ygy ss ps ss.length,ygv ss ps ss.length)=now at *;generalize ygy ss ps ss.length=wr at *;generalize ygv ss ps ss.length=sg at *;have hnr:(il now).length=now.length:=by simp
   have hn6:=hg.nss;(repeat' (first|refine sx ?_|refine aS fun P9 h9=>?_|refine aB fun P9 _ _ _ _=>?_|refine yj5 ?_|(refine s2 ?_ ?_<;>intro h7<;>try omega)))
   refine zam ss.length (fun i=>[(2*3,.av (.ptr 3 0)),(2*3+1,.cells 25 [vi most,.sl 7 (ss.map Slip.row),.sl 5 (ms'.map SumR.row)]),(2*7,.av (.ptr 7 0)),(2*7+1,.cells 47 [.sl 1 (il wr),.sl 1 (bl sg)]),(2*9,.av (vi slip)),(2*10,.av (vi left)),(2*12,.av (vi P.length)),(2*14,.av (.sl 2 (rp P))),(2*15,.av (vi i))]) ?_ ?_
   ·exact si
   ·intro i hi;rcases kae i ss.length with hlt|hge
    ·obtain⟨z,hz⟩:∃z,now[i]?=some z:=⟨_,kaa (by omega)⟩;have hzr:(il now)[i]?=some [vi z]:=zcm hz;have hzl:i<(il now).length:=by omega
     have hzD:now.getD i 0=z:=by simp [hz]
     have hd:decide ((i:Int)<((ss.map Slip.row).length:Int))=true:=decide_eq_true (by omega);have hi1:vi ((i+1:Nat):Int)=vi ((i:Int)+1):=by simp
     have hKi:=hK i;have hc0:zcg (za0 (zql ss P i) h0) 0=0:=rfl;(repeat' (first|refine sx ?_|refine aS fun P9 h9=>?_|refine aB fun P9 _ _ _ _=>?_|refine yj5 ?_|(refine s2 ?_ ?_<;>intro h7<;>try omega)))
     refine zam P.length (fun h=>[(2*3,.av (.ptr 3 0)),(2*3+1,.cells 25 [vi most,.sl 7 (ss.map Slip.row),.sl 5 (ms'.map SumR.row)]),(2*7,.av (.ptr 7 0)),(2*7+1,.cells 47 [.sl 1 (il wr),.sl 1 (bl sg)]),(2*9,.av (vi slip)),(2*10,.av (vi left)),(2*12,.av (vi P.length)),(2*14,.av (.sl 2 (rp P))),(2*15,.av (vi i)),(2*16,.av (vi z)),(2*17,.av (vi (zcg (za0 (zql ss P i) h0) h))),(2*18,.av (vi h))]) ?_ ?_
     ·exact si
     ·intro h hh;rcases kae h P.length with hlt2|hge2
      ·obtain⟨⟨wr2,sg2⟩,hph⟩:∃p,P[h]?=some p:=⟨_,kaa hlt2⟩;have hrow:(rp P)[h]?=some [.sl 1 (il wr2),.sl 1 (bl sg2)]:=zrg hph;have hil2:h<(rp P).length:=by omega
       have hd2:decide ((h:Int)<((rp P).length:Int))=true:=decide_eq_true (by omega);have hokp:=hok _ (kag hph);have hnp:=zey (G:=zch u) most ss ms' wr2 sg2 hn hg.slip hokp.1 hokp.2.1;have hnp2:(zdv ss wr2 sg2 ss.length).1=zc7 ss (wr2,sg2):=rfl;rw [hnp2] at hnp;have hql:=zb6 ss (wr2,sg2);obtain⟨x,hx⟩:∃x,(zc7 ss (wr2,sg2))[i]?=some x:=⟨_,kaa (by omega)⟩
       have hxr:(il (zc7 ss (wr2,sg2)))[i]?=some [vi x]:=zcm hx;have hxl:i<(il (zc7 ss (wr2,sg2))).length:=by simp;omega
       have hxD:(zql ss P i).getD h 0=x:=by simp [zql,kai,kaq,hph,hx]
       have hsame:za0 (zql ss P i) h0 h=decide (x=z):=by rw [za0,hxD,hL0,hzD]
       have hcs:zcg (za0 (zql ss P i) h0) (h+1)=if decide (x=z)=true then zcg (za0 (zql ss P i) h0) h+1 else zcg (za0 (zql ss P i) h0) h:=by rw [←hsame];rfl
       have hcl:=zjz (za0 (zql ss P i) h0) h;have hh1:vi ((h+1:Nat):Int)=vi ((h:Int)+1):=by simp
       cases hxz:decide (x=z) with
       | true =>
         rw [hxz,if_pos rfl] at hcs;have hc1:vi ((zcg (za0 (zql ss P i) h0) (h+1):Nat):Int)=vi ((zcg (za0 (zql ss P i) h0) h:Int)+1):=by rw [hcs];simp
         (repeat' (first|refine sx ?_|refine aS fun P9 h9=>?_|refine aB fun P9 _ _ _ _=>?_|refine yj5 ?_|(refine s2 ?_ ?_<;>intro h7<;>try omega)));refine⟨hlt2,?_⟩;rw [hh1,hc1];exact si
       | false =>rw [hxz,if_neg (by decide)] at hcs;(repeat' (first|refine sx ?_|refine aS fun P9 h9=>?_|refine aB fun P9 _ _ _ _=>?_|refine yj5 ?_|(refine s2 ?_ ?_<;>intro h7<;>try omega)));refine⟨hlt2,?_⟩;rw [hh1,hcs];exact si
      ·have he:h=P.length:=by omega
       subst he;have hd2:decide ((P.length:Int)<((rp P).length:Int))=false:=decide_eq_false (by omega);generalize zcg (za0 (zql ss P i) h0) P.length=K at hKi;rcases hspec with ⟨h1,h2,h3⟩|⟨j,hj,h1,h2,h3⟩
       ·have hKe:=hKi.2.2.2 (h3 i hlt);have hb1:decide ((i:Int)=slip)=false:=decide_eq_false (by omega);have hb2:decide (slip<0)=true:=decide_eq_true (by omega);have hb3:decide ((K:Int)=(P.length:Int))=true:=decide_eq_true (by omega);have hb4:(!decide ((K:Int)=(P.length:Int)))=false:=by rw [hb3];rfl
        (repeat' (first|refine sx ?_|refine aS fun P9 h9=>?_|refine aB fun P9 _ _ _ _=>?_|refine yj5 ?_|(refine s2 ?_ ?_<;>intro h7<;>try omega)));refine⟨hlt,?_⟩;rw [hi1];exact si
       ·have hb2:decide (slip<0)=false:=decide_eq_false (by omega);by_cases hij:i=j
        ·have hb1:decide ((i:Int)=slip)=true:=decide_eq_true (by omega);have hb3:decide ((K:Int) > (left:Int))=false:=decide_eq_false (by subst hij;omega);(repeat' (first|refine sx ?_|refine aS fun P9 h9=>?_|refine aB fun P9 _ _ _ _=>?_|refine yj5 ?_|(refine s2 ?_ ?_<;>intro h7<;>try omega)));refine⟨hlt,?_⟩;rw [hi1];exact si
        ·have hb1:decide ((i:Int)=slip)=false:=decide_eq_false (by omega);(repeat' (first|refine sx ?_|refine aS fun P9 h9=>?_|refine aB fun P9 _ _ _ _=>?_|refine yj5 ?_|(refine s2 ?_ ?_<;>intro h7<;>try omega)));refine⟨hlt,?_⟩;rw [hi1];exact si
    ·have he:i=ss.length:=by omega
     subst he;have hd:decide ((ss.length:Int)<((ss.map Slip.row).length:Int))=false:=decide_eq_false (by omega);(repeat' (first|refine sx ?_|refine aS fun P9 h9=>?_|refine aB fun P9 _ _ _ _=>?_|refine yj5 ?_|(refine s2 ?_ ?_<;>intro h7<;>try omega)));refine fe ?_;rfl
end
end Go.Ab.J
namespace Go.Proofs.YtdhnjafnodoeiaaGreatDoor
open Go Go.Ab Go.Ab.J
theorem salesAsked_holds:Rows.SalesAskedCardSaid:=ybe fun u most ss ms ps q hp h0 h1=>yj4 u summed_a most ss ms ps q hp h0 h1
end Go.Proofs.YtdhnjafnodoeiaaGreatDoor
