/- For every book the function SalesFewest answers true, whatever other goroutines do, and leaves its argument as it was. Conditions: those of the given row. -/
import Derived.Test.YtdhnjafnodoeiaaGreatDoorHFd
import Derived.AtR
import Derived.Calls
import Derived.Conc.AppendWalk
import Derived.Conc.AtomicLaws2
import Derived.Conc.Beside
import Derived.Conc.ClockLaws
import Derived.Conc.CompanyDraw
import Derived.Conc.CompanyMem
import Derived.Conc.HoldsTime
import Derived.Conc.LockJoin
import Derived.Conc.MarkLaws
import Derived.Conc.MuSpec
import Derived.Conc.MuStops
import Derived.Conc.Own
import Derived.Conc.SmallLaws
import Derived.Conc.Starve
import Derived.Conc.WgArith
import Derived.Great.FillDense
import Derived.KernelRfl
import Derived.Laws.BitsLemmas
import Derived.Laws.CopyRow
import Derived.Laws.LoneSync
import Derived.Laws.MakeOwn
import Derived.Laws.OwnMore
import Derived.Laws.Sem
import Derived.LoopNIn
import Derived.MapKept
import Derived.OwnWalkIn
import Derived.RangeFuncBound
import Derived.RangeFuncCalls
import Derived.RangeFuncLeaves
import Derived.RangeFuncNested
import Derived.RangeFuncRecord
import Derived.Shelf.Abstract
import Derived.TacticsInMore
import Derived.Test.YtdhnjafnodoeiaaGreatDoorProg
import Derived.WalkKit
namespace Go.Ab.J
open Go Go.Proofs Go.Kp
def frmS(l:List Int)(j:Nat)(m:SumR):SumR:={ m with firm:=!decide ((j:Int)∈l) }
def yf3(ms:List SumR)(l:List Int)(n:Nat):List SumR:=(List.range ms.length).map fun j=>if j<n then frmS l j (ms.getD j d5) else ms.getD j d5
theorem yf2(ms:List SumR)(l:List Int)(n:Nat):(yf3 ms l n).length=ms.length:=by simp [yf3]
theorem yf4{ms:List SumR}{l:List Int}{n j:Nat}(hj:j<ms.length):(yf3 ms l n).getD j d5=if j<n then frmS l j (ms.getD j d5) else ms.getD j d5:=by simp [yf3,List.getElem?_range hj]
theorem yf5(ss:List Slip)(am:List Int)(m:SumR)(b:Bool):zd3 ss am { m with firm:=b }=zd3 ss am m:=rfl
theorem ygd(ss:List Slip)(ms:List SumR)(l:List Int)(n:Nat)(am:List Int):zan ss (yf3 ms l n) am=zan ss ms am:=by
 unfold zan zao;rw [yf2];congr 1;refine List.filter_congr fun j hj=>?_;have hj:=ka3.1 hj;show zd3 ss am ((yf3 ms l n).getD j d5)=zd3 ss am (ms.getD j d5);rw [yf4 hj];split
 ·exact yf5 ss am _ _
 ·rfl
theorem yf7(ms:List SumR)(xs:List Int):ybf ms xs=true↔∀x∈xs,(ms.getD x.toNat d5).firm=false:=by simp only [ybf,kb7,List.any_eq_false];exact⟨fun h x hx=>by simpa using h x hx,fun h x hx=>by simpa using h x hx⟩
theorem ygg{ss:List Slip}{ms:List SumR}{l:List Int}{am:List Int}:ybf (yf3 ms l ms.length) (zan ss ms am)=true↔∀x∈zan ss ms am,x∈l:=by
 rw [yf7];refine forall_congr' fun x=>imp_congr_right fun hx=>?_;obtain⟨h0,h1⟩:=zd9 ss ms am x hx;have hj:x.toNat<ms.length:=by omega
 rw [yf4 hj,if_pos hj];have e:((x.toNat:Nat):Int)=x:=by omega
 simp [frmS,e]
theorem ygc{ss:List Slip}{ms:List SumR}{am am':List Int}(h:∀x∈zan ss ms am,x∈zan ss ms am')(hl:(zan ss ms am').length≤(zan ss ms am).length):zan ss ms am=zan ss ms am':=by
 have key:(List.range ms.length).filter (fun j=>zd3 ss am (ms.getD j d5))=((List.range ms.length).filter (fun j=>zd3 ss am' (ms.getD j d5))).filter (fun j=>zd3 ss am (ms.getD j d5)):=by
  rw [List.filter_filter];refine List.filter_congr fun j hj=>?_;cases e:zd3 ss am (ms.getD j d5) with
  | false=>simp
  | true =>
    have hx:(j:Int)∈zan ss ms am:=kav.2 ⟨j,kbw.2 ⟨hj,e⟩,rfl⟩;obtain⟨k,hk,hkj⟩:=kav.1 (h _ hx);have:k=j:=by have:(k:Int)=(j:Int):=hkj;omega
    subst this;have h9:zd3 ss am' (ms.getD k d5)=true:=(kbw.1 hk).2;rw [h9];rfl
 have hs:((List.range ms.length).filter (fun j=>zd3 ss am (ms.getD j d5))).Sublist ((List.range ms.length).filter (fun j=>zd3 ss am' (ms.getD j d5))):=by rw [key];exact List.filter_sublist
 have:=hs.eq_of_length_le (by simpa [zan,zao] using hl);unfold zan zao;exact congrArg _ this
structure ygo(most:Int)(ss:List Slip)(ms:List SumR)(l:List Int):Prop where
 p:∃p∈zgf ss,okX ss ms p=true∧zan ss ms (zc0 ss p)=l
 min:∀p∈zgf ss,okX ss ms p=true→zh3 (zan ss ms (zc0 ss p)) l=false
theorem yf6{most:Int}{ss:List Slip}{ms:List SumR}(hc:zak most ss ms=0):(zjw most ss ms=([],9)∧∀p∈zgf ss,okX ss ms p=false)∨(∃l,zjw most ss ms=(l,0)∧ygo most ss ms l):=by
 unfold zjw;by_cases he:zht ss ms (zgf ss)=[]
 ·left;refine⟨by simp [hc,he],fun p hp=>?_⟩;rw [zht,List.map_eq_nil_iff,List.filter_eq_nil_iff] at he;simpa using he p hp
 ·right;obtain⟨l1,l2⟩:=zhf (kbn.2 he);refine⟨zgd (zht ss ms (zgf ss)),by simp [hc,he],?_,fun p hp ho=>?_⟩
  ·obtain⟨p,hp,e⟩:=kav.1 l1;obtain⟨h1,h2⟩:=kbw.1 hp;exact⟨p,h1,h2,e⟩
  ·exact l2 _ (kav.2 ⟨p,kbw.2 ⟨hp,ho⟩,rfl⟩)
theorem ygq{most:Int}{ss:List Slip}{ms:List SumR}{l:List Int}(hc:zak most ss ms=0)(h:ygo most ss ms l):zjw most ss ms=(l,0):=by
 rcases yf6 hc with ⟨_,h2⟩|⟨l',h1,h2⟩
 ·obtain⟨p,hp,ho,_⟩:=h.p;rw [h2 p hp] at ho;cases ho
 ·obtain⟨p,hp,ho,e⟩:=h.p;obtain⟨p',hp',ho',e'⟩:=h2.p;have a:=h.min p' hp' ho';have b:=h2.min p hp ho;rw [e'] at a;rw [e] at b;rw [h1,zvo a b]
theorem ygh{most:Int}{ss:List Slip}{ms:List SumR}{p:zd6}:agP most ss ms p=true↔okX ss ms p=true∧((zan ss ms (zc0 ss p)).length:Int)≤most:=by
 simp only [agP,zeh,okX,ka0,decide_eq_true_eq];constructor
 ·rintro⟨⟨a,b⟩,c⟩;exact⟨⟨c,b⟩,a⟩
 ·rintro⟨⟨a,b⟩,c⟩;exact⟨⟨c,b⟩,a⟩
theorem yf8{most:Int}{ss:List Slip}{ms:List SumR}:0<(zah most ss ms).length↔∃p∈zgf ss,agP most ss ms p=true:=by rw [List.length_pos_iff_exists_mem];exact exists_congr fun p=>by rw [zah,kbw]
theorem yf9{most:Int}{ss:List Slip}{ms:List SumR}{l:List Int}(h:ygo most ss ms l):0<(zah most ss ms).length↔(l.length:Int)≤most:=by
 rw [yf8];constructor
 ·rintro⟨p,hp,ha⟩;obtain⟨ho,hm⟩:=ygh.1 ha;have:=h.min p hp ho;have:¬(zan ss ms (zc0 ss p)).length<l.length:=fun hh=>by
   rw [(zky _ _).2 (.inl hh)] at this;cases this
  omega
 ·intro hm;obtain⟨p,hp,ho,e⟩:=h.p;exact⟨p,hp,ygh.2 ⟨ho,by rw [e];exact hm⟩⟩
theorem ygb{most:Int}{ss:List Slip}{ms:List SumR}(h:∀p∈zgf ss,okX ss ms p=false):(zah most ss ms).length=0:=by
 rcases kbj (zah most ss ms).length with e|e
 ·exact e
 ·obtain⟨p,hp,ha⟩:=yf8.1 e;have:=(ygh.1 ha).1;rw [h p hp] at this;cases this
theorem ygk{most:Int}{ss:List Slip}{ms:List SumR}{l:List Int}(h:ygo most ss ms l):(∀x∈l,(0≤x∧x<(ms.length:Int))∧(ms.getD x.toNat d5).firm=false)∧l.length≤ms.length:=by obtain⟨p,hp,ho,rfl⟩:=h.p;simp only [okX,ka0] at ho;exact⟨fun x hx=>⟨zd9 _ _ _ x hx,(yf7 _ _).1 ho.2 x hx⟩,zo7 _ _ _ _⟩
theorem ygn{most:Int}{ss:List Slip}{ms:List SumR}{l:List Int}(h:ygo most ss ms l):l.Pairwise (· < ·):=by obtain⟨p,hp,ho,rfl⟩:=h.p;unfold zan zao;rw [List.pairwise_map];exact(List.pairwise_lt_range.filter _).imp fun h=>by omega
theorem ygm{most most':Int}{ss:List Slip}{ms:List SumR}{l:List Int}(h:ygo most ss ms l):ygo most' ss (yf3 ms l ms.length) l:=by
 have hw:=fun am=>ygd ss ms l ms.length am;obtain⟨p,hp,ho,e⟩:=h.p;have key:∀p∈zgf ss,okX ss (yf3 ms l ms.length) p=true→zan ss ms (zc0 ss p)=l:=fun q hq hoq=>by
  simp only [okX,ka0,hw,ygg] at hoq;obtain⟨h1,h2⟩:=hoq;have hq2:okX ss ms q=true:=by simp only [okX,ka0];exact⟨h1,(yf7 _ _).2 fun x hx=>((ygk h).1 x (h2 x hx)).2⟩
  have hm:=h.min q hq hq2;have hlen:¬(zan ss ms (zc0 ss q)).length<l.length:=fun hh=>by rw [(zky _ _).2 (.inl hh)] at hm;cases hm
  rw [←e];exact ygc (by rw [e];exact h2) (by rw [e];omega)
 refine⟨⟨p,hp,?_,by rw [hw];exact e⟩,fun q hq hoq=>by rw [hw,key q hq hoq];exact zkx l⟩;simp only [okX,ka0,hw,ygg] at ho ⊢;exact⟨ho.1,fun x hx=>e▸hx⟩
theorem ygj{most:Int}{ss:List Slip}{ms:List SumR}{l:List Int}(hg:Good most ss ms)(hl:l.length≤2):Good (l.length:Int) ss (yf3 ms l ms.length) where
 most:=by omega
 nss:=hg.nss
 slip:=hg.slip
 fix:=hg.fix
 nms:=by rw [yf2];exact hg.nms
 sum:=fun m hm=>by
  obtain⟨j,hj,rfl⟩:=kav.1 hm;have hj:=ka3.1 hj;rw [if_pos hj];have hmem:ms.getD j d5∈ms:=by rw [kai,kaa hj];exact kbf hj
  exact hg.sum (ms.getD j d5) hmem
section
variable{G:zbf}{u:Nat→ByteArray}
attribute [local irreducible] AOp AW ADr AFn ze1 AFt AOpJ
set_option maxRecDepth 20000
set_option maxHeartbeats 8000000
theorem cyb0{P G:Prop}(n:P)(h:Go.Kp.Wr P→G:=by(intro n;first|((with_reducible apply kC);first|exact gB ⟨_,zv8 _ _ _,.mk rfl n.p⟩|exact gK n.p|exact gS n.p)|exact⟨_,zv8 _ _ _,n.p⟩|exact sk n.p|exact ap n.p)):G:=h ⟨n⟩
theorem ygi(l:List Int)(m:Int)(hl:l.length≤100000)(hm:0≤m∧m≤100000)(hs:l.Pairwise (· < ·))(hin:∀x∈l,0≤x∧x<m):AFn (cx G) 25 [.sl 1 (il l),vi m] (vi 0):=by
 refine zag Tryz.func25 rfl Tryz.ntmps25 rfl rfl rfl ?_ rfl;refine zab fun Q hQ=>?_;(repeat' (first|refine sx ?_|refine aS fun P9 h9=>?_|refine aB fun P9 _ _ _ _=>?_|refine cyb0 ?_|(refine s2 ?_ ?_<;>intro h7<;>try omega)));refine zam l.length (fun i=>[(2*0,.av (.sl 1 (il l))),(2*1,.av (vi m)),(2*5,.av (vi i))]) ?_ ?_
 ·exact si
 ·intro i hi;rcases kae i l.length with hlt|hge
  ·obtain⟨z,hz⟩:∃z,l[i]?=some z:=⟨_,kaa hlt⟩;have hzr:(il l)[i]?=some [vi z]:=zcm hz;have hzl:i<(il l).length:=by simp;omega
   have hd:decide ((i:Int)<((il l).length:Int))=true:=by simp;omega
   have hz2:=hin z (kag hz);have hdz:decide (0≤z∧z≤m-1)=true:=decide_eq_true (by omega);have hi1:vi ((i+1:Nat):Int)=vi ((i:Int)+1):=by simp
   cases i with
   | zero =>(repeat' (first|refine sx ?_|refine aS fun P9 h9=>?_|refine aB fun P9 _ _ _ _=>?_|refine cyb0 ?_|(refine s2 ?_ ?_<;>intro h7<;>try omega)));refine⟨hlt,?_⟩;exact si
   | succ j =>
     obtain⟨y,hy⟩:∃y,l[j]?=some y:=⟨_,kaa (by omega)⟩;have hyr:(il l)[j]?=some [vi y]:=zcm hy;have hyl:j<(il l).length:=by simp;omega
     have hj:((j+1:Nat):Int)-1=(j:Int):=by omega
     have hyz:y<z:=by have:=List.pairwise_iff_getElem.1 hs j (j+1) (by omega) hlt (by omega);rw [kaa (by omega),kap] at hy hz;rw [hy,hz] at this;exact this
     have hg0:decide (((j+1:Nat):Int) > 0)=true:=decide_eq_true (by omega);have hg1:decide (y ≥ z)=false:=decide_eq_false (by omega);(repeat' (first|refine sx ?_|refine aS fun P9 h9=>?_|refine aB fun P9 _ _ _ _=>?_|refine cyb0 ?_|(refine s2 ?_ ?_<;>intro h7<;>try omega)));refine⟨hlt,?_⟩;exact si
  ·have he:i=l.length:=by omega
   subst he;have hd:decide ((l.length:Int)<((il l).length:Int))=false:=by simp
   (repeat' (first|refine sx ?_|refine aS fun P9 h9=>?_|refine aB fun P9 _ _ _ _=>?_|refine cyb0 ?_|(refine s2 ?_ ?_<;>intro h7<;>try omega)));refine fe ?_;rfl
theorem yge(ms:List SumR)(l:List Int):yf3 ms l 0=ms:=by refine List.ext_getElem (yf2 _ _ _) fun j h1 h2=>?_;simp [yf3,h2]
theorem ygf{ms:List SumR}{l:List Int}{i:Nat}(_hi:i<ms.length):(yf3 ms l i).set i (frmS l i (ms.getD i d5))=yf3 ms l (i+1):=by
 refine List.ext_getElem (by simp [yf3]) fun j h1 h2=>?_;rw [List.getElem_set];by_cases e:i=j
 ·subst e;simp [yf3]
 ·rw [if_neg e];simp only [yf3,List.getElem_map,List.getElem_range];by_cases h:j<i
  ·rw [if_pos h,if_pos (by omega)]
  ·rw [if_neg h,if_neg (by omega)]
theorem ygl{P G:Prop}(n:P)(h:Go.Kp.Wr P→G:=by(intro n;first|((with_reducible apply kC);first|exact gB ⟨_,ygp _ _ _,.mk rfl n.p⟩|exact gB ⟨_,hsum,.mk rfl n.p⟩|exact gB ⟨_,hfa,.mk rfl n.p⟩|exact gB ⟨_,hha,.mk rfl n.p⟩|exact gB ⟨_,hri,.mk rfl n.p⟩|exact gB ⟨_,z75 l _ hl5,.mk rfl n.p⟩|exact gB ⟨_,hfb,.mk rfl n.p⟩|exact gB ⟨_,hhb,.mk rfl n.p⟩|exact gB ⟨_,hsame,.mk rfl n.p⟩|exact gK n.p|exact gS n.p)|exact⟨_,ygp _ _ _,n.p⟩|exact⟨_,hsum,n.p⟩|exact⟨_,hfa,n.p⟩|exact⟨_,hha,n.p⟩|exact⟨_,hri,n.p⟩|exact⟨_,z75 l _ hl5,n.p⟩|exact⟨_,hfb,n.p⟩|exact⟨_,hhb,n.p⟩|exact⟨_,hsame,n.p⟩|exact sk n.p|exact ap n.p)):G:=h ⟨n⟩
theorem yga(u:Nat→ByteArray)(hsum:AFn (cx (zch u)) 10 [] (vb true))(most:Int)(ss:List Slip)(ms:List SumR):Top (cx (zch u)) 5 [bk most ss ms] (vb true):=by
 refine top_by Tryz.func5 (by kernel_rfl) rfl Tryz.ntmps5 rfl rfl ?_ rfl;refine zab fun Q hQ=>?_;by_cases hfit:(ss.length≤20∧ms.length≤20)∧zak most ss ms=0;case neg =>
  have hd1:decide ((ss.length≤20∧ms.length≤20)∧zak most ss ms=0)=false:=decide_eq_false hfit;(repeat' (first|refine sx ?_|refine aS fun P9 h9=>?_|refine aB fun P9 _ _ _ _=>?_|refine ygl ?_|(refine s2 ?_ ?_<;>intro h7<;>try omega)));refine fe ?_;rfl
 have hd1:decide ((ss.length≤20∧ms.length≤20)∧zak most ss ms=0)=true:=decide_eq_true hfit;obtain⟨⟨hn,hm⟩,hc⟩:=hfit;have hg:=(za2 most ss ms).1 hc;have hfa:=zwk (u:=u) most ss ms hn hm;have hha:=zkg (u:=u) most ss ms hn hm;have hN:zr3 most ss ms=(((zah most ss ms).length:Int),0):=by simp [zr3,hc]
 rw [hN] at hha;rcases yf6 hc with ⟨hf,hnone⟩|⟨l,hf,hw⟩
 ·rw [hf,if_pos (by decide)] at hfa;have e0:((zah most ss ms).length:Int)=0:=by rw [ygb hnone];rfl
  rw [e0] at hha;(repeat' (first|refine sx ?_|refine aS fun P9 h9=>?_|refine aB fun P9 _ _ _ _=>?_|refine ygl ?_|(refine s2 ?_ ?_<;>intro h7<;>try omega)));refine fe ?_;rfl
 rw [hf,if_neg (by simp)] at hfa;obtain⟨hin,hlm⟩:=ygk hw;have hnm:=hg.nms;have hl5:l.length≤100000:=by omega
 have hlen:(il l).length=l.length:=by simp
 have hri:=ygi (G:=zch u) l ((ms.map SumR.row).length:Int) hl5 (by simp;omega) (ygn hw) (fun x hx=>by have:=(hin x hx).1;simpa using this);have hpos:(0<(zah most ss ms).length)↔((l.length:Int)≤most):=yf9 hw;generalize hH:(zah most ss ms).length=H at hha hpos;have hb1:(decide ((H:Int) > 0) == decide (((il l).length:Int)≤most))=true:=by rw [beq_iff_eq,decide_eq_decide,hlen,←hpos];omega
 (repeat' (first|refine sx ?_|refine aS fun P9 h9=>?_|refine aB fun P9 _ _ _ _=>?_|refine ygl ?_|(refine s2 ?_ ?_<;>intro h7<;>try omega)));have h0:(yf3 ms l 0).map SumR.row=ms.map SumR.row:=by rw [yge]
 refine zam ms.length (fun i=>[(2*1,.av (.ptr 1 0)),(2*1+1,.cells 25 [vi most,.sl 7 (ss.map Slip.row),.sl 5 (ms.map SumR.row)]),(2*3,.av (.sl 1 (il l))),(2*7,.av (.ptr 7 0)),(2*7+1,.cells 25 [vi most,.sl 7 (ss.map Slip.row),.own 69]),(2*69+1,.buf 5 61 ((yf3 ms l i).map SumR.row)),(2*8,.av (vi i))]) ?_ ?_
 ·exact si
 ·intro i hi;have hfl:((yf3 ms l i).map SumR.row).length=ms.length:=by rw [ka6,yf2]
  rcases kae i ms.length with hlt|hge
  ·have hget:=yf4 (l:=l) (n:=i) hlt;rw [if_neg (by omega)] at hget;have hsuc:=ygf (l:=l) hlt;have hfirm:(i:Int)∈l→(ms.getD i d5).firm=false:=fun h=>(hin _ h).2;have hgr:(yf3 ms l i)[i]?=some (ms.getD i d5):=by
    rw [kaa (by rw [yf2];exact hlt),←hget,kai,kaa (by rw [yf2];exact hlt)];rfl
   generalize ms.getD i d5=m at hgr hsuc hfirm;obtain⟨kind,a,lo,hi2,firm⟩:=m;have hrow:((yf3 ms l i).map SumR.row)[i]?=some [vi kind,vi a,vi lo,vi hi2,vb firm]:=by rw [kaq,hgr];rfl
   have hil:i<((yf3 ms l i).map SumR.row).length:=by omega
   have hd:decide ((i:Int)<(((yf3 ms l i).map SumR.row).length:Int))=true:=decide_eq_true (by omega);have hset:((yf3 ms l i).map SumR.row).set i (spl [vi kind,vi a,vi lo,vi hi2,vb firm] 4 [.val (.bool (!decide ((i:Int)∈l)))])=(yf3 ms l (i+1)).map SumR.row:=by rw [←hsuc,List.map_set];rfl
   have hi1:vi ((i+1:Nat):Int)=vi ((i:Int)+1):=by simp
   cases firm with
   | true =>
     have hd2:(decide ((i:Int)∈l) == true)=false:=by
      have:decide ((i:Int)∈l)=false:=decide_eq_false fun h=>by cases hfirm h
      rw [this];rfl
     (repeat' (first|refine sx ?_|refine aS fun P9 h9=>?_|refine aB fun P9 _ _ _ _=>?_|refine ygl ?_|(refine s2 ?_ ?_<;>intro h7<;>try omega)));refine⟨hlt,?_⟩;exact si
   | false =>
     cases hdl:decide ((i:Int)∈l) with
     | true =>
       rw [hdl] at hset;have hd2:(decide ((i:Int)∈l) == false)=false:=by rw [hdl];rfl
       (repeat' (first|refine sx ?_|refine aS fun P9 h9=>?_|refine aB fun P9 _ _ _ _=>?_|refine ygl ?_|(refine s2 ?_ ?_<;>intro h7<;>try omega)));refine⟨hlt,?_⟩;exact si
     | false =>
       rw [hdl] at hset;have hd2:(decide ((i:Int)∈l) == false)=true:=by rw [hdl];rfl
       (repeat' (first|refine sx ?_|refine aS fun P9 h9=>?_|refine aB fun P9 _ _ _ _=>?_|refine ygl ?_|(refine s2 ?_ ?_<;>intro h7<;>try omega)));refine⟨hlt,?_⟩;exact si
  ·have he:i=ms.length:=by omega
   subst he;have hd:decide ((ms.length:Int)<(((yf3 ms l ms.length).map SumR.row).length:Int))=false:=decide_eq_false (by omega);by_cases hl2:(2:Int)<((il l).length:Int)
   ·have hd3:decide (((il l).length:Int) > 2)=true:=decide_eq_true hl2;(repeat' (first|refine sx ?_|refine aS fun P9 h9=>?_|refine aB fun P9 _ _ _ _=>?_|refine ygl ?_|(refine s2 ?_ ?_<;>intro h7<;>try omega)));refine fe ?_;rfl
   ·have hd3:decide (((il l).length:Int) > 2)=false:=decide_eq_false hl2;have hg2:=ygj (l:=l) hg (by rw [hlen] at hl2;omega);have hc2:=(za2 _ _ _).2 hg2;have hw2:=ygm (most':=(l.length:Int)) hw;have hm2:(yf3 ms l ms.length).length≤20:=by rw [yf2];exact hm
    have hfb:=zwk (u:=u) (l.length:Int) ss (yf3 ms l ms.length) hn hm2;rw [ygq hc2 hw2,if_neg (by simp),←hlen] at hfb;have hhb:=zkg (u:=u) (l.length:Int) ss (yf3 ms l ms.length) hn hm2;have hN2:zr3 (l.length:Int) ss (yf3 ms l ms.length)=(((zah (l.length:Int) ss (yf3 ms l ms.length)).length:Int),0):=by simp [zr3,hc2]
    have hp2:=(yf9 hw2).2 (Int.le_refl _);rw [hN2] at hhb;generalize (zah (l.length:Int) ss (yf3 ms l ms.length)).length=H2 at hhb hp2;rw [←hlen] at hhb;have hd4:decide ((H2:Int) > 0)=true:=decide_eq_true (by omega);have hsame:=zg5 (G:=zch u) l l hl5 hl5;rw [decide_eq_true rfl] at hsame
    (repeat' (first|refine sx ?_|refine aS fun P9 h9=>?_|refine aB fun P9 _ _ _ _=>?_|refine ygl ?_|(refine s2 ?_ ?_<;>intro h7<;>try omega)));refine fe ?_;rfl
end
end Go.Ab.J
namespace Go.Ab.J
open Go
theorem rNil{E:Env}{w:World}:yf1 E w [] []:=yf1.nil _ _
end Go.Ab.J
