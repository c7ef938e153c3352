/- For every book and all numbers SalesAnyOrder answers true, whatever other goroutines do, and leaves its arguments as they were. Conditions: those of the given row, none else. -/
import Derived.Test.YtbghfeeibnmlbaaGreatDoorHOa
import Derived.AtR
import Derived.Calls
import Derived.ChangeKeysEq
import Derived.Conc.AppendWalk
import Derived.Conc.AtomicLaws2
import Derived.Conc.Beside
import Derived.Conc.ClockLaws
import Derived.Conc.CompanyDraw
import Derived.Conc.CompanyMem
import Derived.Conc.HoldsTime
import Derived.Conc.LockJoin
import Derived.Conc.MarkLaws
import Derived.Conc.MuSpec
import Derived.Conc.MuStops
import Derived.Conc.Own
import Derived.Conc.SmallLaws
import Derived.Conc.Starve
import Derived.Conc.WgArith
import Derived.Great.BuildSlice
import Derived.Great.FillDense
import Derived.KernelRfl
import Derived.Laws.Bits64b
import Derived.Laws.BitsLemmas
import Derived.Laws.CopyRow
import Derived.Laws.LoneSync
import Derived.Laws.MakeOwn
import Derived.Laws.OwnMore
import Derived.Laws.Sem
import Derived.Laws.Shifts
import Derived.Laws.StructEq
import Derived.LoopNIn
import Derived.MapKept
import Derived.Maps.AppendAt
import Derived.OwnWalkIn
import Derived.ProofKit
import Derived.RangeFuncBound
import Derived.RangeFuncCalls
import Derived.RangeFuncLeaves
import Derived.RangeFuncNested
import Derived.RangeFuncRecord
import Derived.Shelf.Abstract
import Derived.Sort.AssemblyPlain
import Derived.Sort.LotD4
import Derived.Sort.LotD5
import Derived.TacticsInMore
import Derived.Test.YtbghfeeibnmlbaaGreatDoorCards
import Derived.Test.YtbghfeeibnmlbaaGreatDoorProg
import Derived.Test.YtbghfeeibnmlbaaGreatDoorRows
import Derived.Test.YtbghfeeibnmlbaaGreatDoorTie
import Derived.WalkKit
namespace Go.Ab.J
open Go Go.Proofs Go.Kp
section
variable{G:zbf}{u:Nat→ByteArray}
attribute [local irreducible] AOp AW ADr AFn ze1 AFt AOpJ
set_option maxRecDepth 20000
set_option maxHeartbeats 8000000
theorem ymt{most:Int}{ss:List Slip}{ms:List SumR}(hg:Good most ss ms)(k:Int):(ym3 most ss ms k).length≤100000:=by
 unfold ym3;split
 ·have h1:=ymd (ym6 (ybr most ss ms k.toNat)) (ym6 (ybr most ss ms k.toNat)).length;have h2:=(ylc (ybr most ss ms k.toNat)).2.2;have h3:(ybr most ss ms k.toNat).length=(zah most ss ms).length:=by simp [ybr]
  have h4:=zfd hg;show(cpU _ _).length≤_;omega
 ·simp
end
theorem yry{most:Int}{ss:List Slip}{ms:List SumR}(hg:Good most ss ms):Good most ss ms.reverse :=
 ⟨hg.most,hg.nss,hg.slip,hg.fix,by simpa using hg.nms,fun m hm=>hg.sum m (by simpa using hm)⟩
theorem yr1(ms:List SumR):(List.range ms.length).map (fun j=>ms.getD j d5)=ms:=by
 apply kc0;intro i;rw [kaq];rcases kae i ms.length with h|h
 ·rw [List.getElem?_range h];simp [h]
 ·rw [kay (by simpa using h),kay h];rfl
theorem yrz(ss:List Slip)(ms:List SumR)(am:List Int):(zan ss ms am).length=(ms.filter (zd3 ss am)).length:=by
 conv=>rhs;rw [←yr1 ms]
 rw [List.filter_map,ka6];unfold zan zao;rw [ka6];rfl
theorem yrw(ss:List Slip)(ms:List SumR)(am:List Int):(zan ss ms.reverse am).length=(zan ss ms am).length:=by rw [yrz,yrz,List.filter_reverse,List.length_reverse]
theorem yrv(ss:List Slip)(ms:List SumR)(am:List Int)(i:Nat):(i:Int)∈zan ss ms am↔i<ms.length∧zd3 ss am (ms.getD i d5)=true:=by
 unfold zan zao;simp only [kav,kbw,ka3];constructor
 ·rintro⟨j,⟨h1,h2⟩,e⟩;obtain rfl:j=i:=by omega
  exact⟨h1,h2⟩
 ·rintro⟨h1,h2⟩;exact⟨i,⟨h1,h2⟩,rfl⟩
theorem yr7(ss:List Slip)(ms:List SumR)(am:List Int):ybf ms (zan ss ms am)=!ms.any fun m=>zd3 ss am m&&m.firm:=by
 unfold ybf;congr 1;rw [Bool.eq_iff_iff,kaz,kaz];constructor
 ·rintro⟨x,hx,hf⟩;obtain⟨h0,h1⟩:=zd9 ss ms am x hx;obtain⟨i,rfl⟩:∃i:Nat,x=(i:Int):=⟨x.toNat,by omega⟩;obtain⟨h2,h3⟩:=(yrv ss ms am i).1 hx;rw [kb9] at hf;refine⟨ms.getD i d5,by simp [h2],?_⟩;rw [h3];exact hf
 ·rintro⟨m,hm,hf⟩;obtain⟨i,hi,rfl⟩:=ked hm;simp only [ka0] at hf;have hgd:ms.getD i d5=ms[i]:=by simp [hi]
  refine⟨(i:Int),(yrv ss ms am i).2 ⟨hi,by rw [hgd];exact hf.1⟩,?_⟩;rw [kb9];show(ms.getD i d5).firm=true;rw [hgd];exact hf.2
theorem yr6(ss:List Slip)(ms:List SumR)(am:List Int):ybf ms.reverse (zan ss ms.reverse am)=ybf ms (zan ss ms am):=by rw [yr7,yr7,List.any_reverse]
theorem yr2(most:Int)(ss:List Slip)(ms:List SumR)(am:List Int):zeh most ss ms.reverse am=zeh most ss ms am:=by unfold zeh;rw [yr6,yrw]
theorem yru(most:Int)(ss:List Slip)(ms:List SumR):zah most ss ms.reverse=zah most ss ms :=
 List.filter_congr fun _p _=>yr2 most ss ms _
theorem yrx{most:Int}{ss:List Slip}{ms:List SumR}(hg:Good most ss ms)(own:Int):zbt most ss ms.reverse own=zbt most ss ms own:=by unfold zbt;rw [(za2 most ss ms).2 hg,(za2 most ss ms.reverse).2 (yry hg),yru]
theorem yr9{most:Int}{ss:List Slip}{ms:List SumR}(hg:Good most ss ms)(k a:Int):zyr most ss ms.reverse k a=zyr most ss ms k a:=by
 have e:zzd most ss ms.reverse k a=zzd most ss ms k a:=by funext i;unfold zzd;rw [yru]
 unfold zyr;rw [yrx hg,yru,e]
theorem ysd{most:Int}{ss:List Slip}{ms:List SumR}(hg:Good most ss ms)(k:Int):ym3 most ss ms.reverse k=ym3 most ss ms k:=by unfold ym3 ybr;rw [yrx hg,yru]
theorem yr8(ms:List SumR){i:Nat}(hi:i<ms.length):ms.reverse.getD i d5=ms.getD (ms.length-1-i) d5:=by simp only [kai];rw [List.getElem?_reverse hi]
theorem yr5{most:Int}{ss:List Slip}{ms:List SumR}(hg:Good most ss ms){i j:Nat}(hij:i+j+1=ms.length):zge most ss ms.reverse (j:Int)=zge most ss ms (i:Int):=by
 have e:zwn most ss ms.reverse (j:Int)=zwn most ss ms (i:Int):=by funext h;unfold zwn;rw [yru];congr 1;rw [eq_iff_iff,yrv,yrv,List.length_reverse,yr8 ms (by omega),show ms.length-1-j=i by omega];exact⟨fun h=>⟨by omega,h.2⟩,fun h=>⟨by omega,h.2⟩⟩
 have o1:zgc ms.reverse (j:Int)=0:=by rw [zgc,if_pos (decide_eq_true (by rw [List.length_reverse];omega))]
 have o2:zgc ms (i:Int)=0:=by rw [zgc,if_pos (decide_eq_true (by omega))]
 unfold zge;rw [o1,o2,yrx hg,yru,e]
theorem yr0{F:List zd6}{f g:zd6→List Int}(h:∀p,(f p).length=(g p).length)(hne:F≠[]):(zgd (F.map f)).length≤(zgd (F.map g)).length:=by
 obtain⟨l1,l2⟩:=zhf (L:=F.map f) (kbn.2 (by simpa using hne));obtain⟨m1,m2⟩:=zhf (L:=F.map g) (kbn.2 (by simpa using hne));obtain⟨p,hp,e⟩:=kav.1 m1;have:=l2 _ (kav.2 ⟨p,hp,rfl⟩);rw [←e,←h p];rcases kae (f p).length (zgd (F.map f)).length with h1|h1
 ·have:=(zky (f p) (zgd (F.map f))).2 (.inl h1);simp_all
 ·exact h1
theorem ysb{most:Int}{ss:List Slip}{ms:List SumR}(hg:Good most ss ms):(zjw most ss ms.reverse).2=(zjw most ss ms).2∧(zjw most ss ms.reverse).1.length=(zjw most ss ms).1.length:=by
 have hok:okX ss ms.reverse=okX ss ms:=by funext p;unfold okX;rw [yr6]
 unfold zjw;rw [(za2 most ss ms).2 hg,(za2 most ss ms.reverse).2 (yry hg)];unfold zht;rw [hok];generalize (zgf ss).filter (okX ss ms)=F;by_cases hF:F=[]
 ·subst hF;simp
 ·have hl:=fun p=>yrw ss ms (zc0 ss p);rw [if_neg (by simp),if_neg (by simpa using hF),if_neg (by simp),if_neg (by simpa using hF)];exact⟨rfl,Nat.le_antisymm (yr0 hl hF) (yr0 (fun p=>(hl p).symm) hF)⟩
theorem yse{C:Cx}{f:FuncId}{args:List AV}{r r':AV}(h:AFn C f args r)(hr:r'.ids=[])(k:∀E w v,Rep E w r v→Rep E w r' v):AFn C f args r':=by unfold AFn at *;refine⟨hr,h.2.1,fun Post imm σ w vs h1 h2 h3=>?_⟩;have h4:=h.2.2 Post imm σ w vs h1 h2 h3;exact fun c cs hm hR=>h4 c cs hm fun σ' v w' hr=>hR σ' v w' ⟨hr.1,k _ _ _ hr.2⟩
theorem yr3{C:Cx}{f:FuncId}{args:List AV}{F:List Int×Int}(hz:F.2≠0→F.1=[])(h:AFn C f args (if F.2≠0 then .tup [.val (.slice none 0 0),vi F.2] else .tup [.sl 1 (il F.1),vi 0])):AFn C f args (.tup [.sl 1 (il F.1),vi F.2]):=by
 by_cases h0:F.2=0
 ·rw [if_neg (by simpa using h0)] at h;rw [h0];exact h
 ·rw [if_pos h0] at h;rw [hz h0];refine yse h rfl fun E w v hv=>?_;cases hv with
  | tup xs vs hl h =>
    refine .tup _ _ hl fun i x v hx hv=>?_
    match i,hx with
    | 0,hx =>
      cases hx;have:=(h 0 _ v rfl hv).val_eq
      rw [this];exact .nil 1
    | 1,hx=>exact h 1 _ v hx hv
theorem yr4(most:Int)(ss:List Slip)(ms:List SumR):(zjw most ss ms).2≠0→(zjw most ss ms).1=[]:=by
 unfold zjw;split
 ·exact fun _=>rfl
 ·split
  ·exact fun _=>rfl
  ·exact fun h=>absurd rfl h
def GoT(u:Nat→ByteArray)(fn:Func)(k:Nat)(Q:Exit→AS→Prop)(s:AS):Prop:=∀c,tl k fn.body=some c→AW (cx (zch u)) none fn.ntmps c Q s
theorem yqp{u:Nat→ByteArray}{fn:Func}{k N:Nat}{Q:Exit→AS→Prop}{s:AS}{c:Code}(e:tl k fn.body=some c)(hN:fn.ntmps=N)(h:AW (cx (zch u)) none N c Q s):GoT u fn k Q s:=fun c' e'=>by subst hN;exact kaw (e.symm.trans e')▸h
theorem yp4{u:Nat→ByteArray}{fn:Func}{k N:Nat}{Q:Exit→AS→Prop}{s s':AS}{c:Code}(h:GoT u fn k Q s')(e:tl k fn.body=some c)(hN:fn.ntmps=N)(hs:Sub (zch u) N s s'):AW (cx (zch u)) none N c Q s:=by subst hN;exact zbx hs (h c e)
abbrev EndT(u:Nat→ByteArray)(fn:Func)(Q:Exit→AS→Prop):Prop:=∀e s,((e=.normal∨e=.ret)∧zck (cx (zch u)) s fn.results.toList=some (vb true))→Q e s
section
variable{G:zbf}{u:Nat→ByteArray}
noncomputable abbrev ysa:Func:=Tryz.f7
abbrev stO(most slip sum:Int)(ss:List Slip)(ms:List SumR):AS:=[(2*1,.av (.val (.int .u8 slip))),(2*2,.av (.val (.int .u8 sum))),(2*4,.av (.ptr 4 0)),(2*4+1,.cells 25 [vi most,.sl 7 (ss.map Slip.row),.sl 5 (ms.map SumR.row)]),(2*9,.av (.ptr 9 0)),(2*9+1,.cells 25 [vi most,.sl 7 (ss.map Slip.row),.own 1000]),(2*10,.av (vi ((ms.map SumR.row).length:Int)))]
attribute [local irreducible] AOp AW ADr AFn ze1 AFt AOpJ
attribute [local irreducible] GoT
set_option maxRecDepth 20000
set_option maxHeartbeats 16000000
section
variable{most slip sum:Int}{ss:List Slip}{ms:List SumR}{Q:Exit→AS→Prop}
theorem che0{P G:Prop}(n:P)(h:Wr P→G:=by(intro n;first|((with_reducible apply kC);first|exact gB ⟨_,hsum,.mk rfl n.p⟩|exact gB ⟨_,ham,.mk rfl n.p⟩|exact gB ⟨_,ham2,.mk rfl n.p⟩|exact gB ⟨_,hsl,.mk rfl n.p⟩|exact gK n.p|exact gS n.p)|exact⟨_,hsum,n.p⟩|exact⟨_,ham,n.p⟩|exact⟨_,ham2,n.p⟩|exact⟨_,hsl,n.p⟩|exact sk n.p|exact ap n.p)):G:=h ⟨n⟩
theorem ehe0{G:Prop}(h:G:=by((repeat' (first  |refine sy ?_|(refine aZ ?_;intros)|refine che0 ?_|(refine s2 ?_ ?_<;>intro h7<;>try omega)));refine fe ?_;rfl)):G:=h
theorem any14(hsum:AFn (cx (zch u)) 15 [] (vb true))(hq0:0≤slip)(hq1:slip<256)(hA:ss.length≠0→∃(L:List Int) (z:Int),AFn (cx (zch u)) 34 [bk most ss ms,vi (slip % ((ss.map Slip.row).length:Int))] (.tup [.sl 1 (il L),vi z])∧AFn (cx (zch u)) 34 [bk most ss ms.reverse,vi (slip % ((ss.map Slip.row).length:Int))] (.tup [.sl 1 (il L),vi z])∧AFn (cx (zch u)) 22 [.sl 1 (il L),.sl 1 (il L)] (vb true))(hQ:EndT u ysa Q):GoT u ysa 14 Q (stO most slip sum ss ms++[(2*1000+1,.frz 5 (ms.reverse.map SumR.row))]):=by
 have hlm:((ss.map Slip.row).length:Int)=(ss.length:Int):=by simp
 refine yqp rfl Tryz.ntmps7 ?_;by_cases h0:ss.length=0
 ·have hd2:decide (((ss.map Slip.row).length:Int)=0)=true:=decide_eq_true (by omega);exact ehe0
 ·have hd2:decide (((ss.map Slip.row).length:Int)=0)=false:=decide_eq_false (by omega);obtain⟨L,z,ham,ham2,hsl⟩:=hA h0;have hmod:0≤slip∧0<((ss.map Slip.row).length:Int):=⟨hq0,by omega⟩;have hzz:decide (z=z)=true:=decide_eq_true rfl;exact ehe0
theorem che1{P G:Prop}(n:P)(h:Wr P→G:=by(intro n;first|((with_reducible apply kC);first|exact gB ⟨_,hfa,.mk rfl n.p⟩|exact gB ⟨_,hfb,.mk rfl n.p⟩|exact gK n.p|exact gS n.p)|exact⟨_,hfa,n.p⟩|exact⟨_,hfb,n.p⟩|exact sk n.p|exact ap n.p)):G:=h ⟨n⟩
theorem any13(hm:ms.length≤20)(h14:GoT u ysa 14 Q (stO most slip sum ss ms++[(2*1000+1,.frz 5 (ms.reverse.map SumR.row))]))(hq0:0≤sum)(hq1:sum<256)(hF:ms.length≠0→∃t z:Int,AFn (cx (zch u)) 18 [bk most ss ms,vi (sum % ((ms.map SumR.row).length:Int))] (.tup [vi t,vi z])∧AFn (cx (zch u)) 18 [bk most ss ms.reverse,vi (((ms.map SumR.row).length:Int)-1-sum % ((ms.map SumR.row).length:Int))] (.tup [vi t,vi z])):GoT u ysa 13 Q (stO most slip sum ss ms++[(2*1000+1,.frz 5 (ms.reverse.map SumR.row))]):=by
 have hlm:((ms.map SumR.row).length:Int)=(ms.length:Int):=by simp
 refine yqp rfl Tryz.ntmps7 ?_;by_cases h0:ms.length=0
 ·have hd2:decide ((0:Int)<((ms.map SumR.row).length:Int))=false:=decide_eq_false (by omega);(repeat' (first|exact yp4 h14 rfl Tryz.ntmps7 (by exact si) |refine sy ?_|(refine aZ ?_;intros)|refine che1 ?_|(refine s2 ?_ ?_<;>intro h7<;>try omega)))
 ·have hd2:decide ((0:Int)<((ms.map SumR.row).length:Int))=true:=decide_eq_true (by omega);obtain⟨t,z,hfa,hfb⟩:=hF h0;have hr:0≤sum % ((ms.map SumR.row).length:Int)∧sum % ((ms.map SumR.row).length:Int)<((ms.map SumR.row).length:Int):=⟨Int.emod_nonneg _ (by omega),Int.emod_lt_of_pos _ (by omega)⟩;have hmod:0≤sum∧0<((ms.map SumR.row).length:Int):=⟨hq0,by omega⟩
  have hzz:(!decide (z=z))=false:=by simp
  have htt:decide (t=t)=true:=decide_eq_true rfl;(repeat' (first|exact yp4 h14 rfl Tryz.ntmps7 (by exact si) |refine sy ?_|(refine aZ ?_;intros)|refine che1 ?_|(refine s2 ?_ ?_<;>intro h7<;>try omega)))
theorem che2{P G:Prop}(n:P)(h:Wr P→G:=by(intro n;first|((with_reducible apply kC);first|exact gB ⟨_,hw,.mk rfl n.p⟩|exact gB ⟨_,hha,.mk rfl n.p⟩|exact gB ⟨_,hhb,.mk rfl n.p⟩|exact gB ⟨_,hsu,.mk rfl n.p⟩|exact gB ⟨_,hsv,.mk rfl n.p⟩|exact gB ⟨_,hfw,.mk rfl n.p⟩|exact gB ⟨_,hfx,.mk rfl n.p⟩|exact gK n.p|exact gS n.p)|exact⟨_,hw,n.p⟩|exact⟨_,hha,n.p⟩|exact⟨_,hhb,n.p⟩|exact⟨_,hsu,n.p⟩|exact⟨_,hsv,n.p⟩|exact⟨_,hfw,n.p⟩|exact⟨_,hfx,n.p⟩|exact sk n.p|exact ap n.p)):G:=h ⟨n⟩
theorem any5{kind K A x0 x1 z zf n:Int}{F F2:List Int}(h13:GoT u ysa 13 Q (stO most slip sum ss ms++[(2*1000+1,.frz 5 (ms.reverse.map SumR.row))]))(hw:AFn (cx (zch u)) 27 [.val (.int .u8 kind)] (.tup [vi K,vi A]))(hha:AFn (cx (zch u)) 28 [bk most ss ms] (.tup [vi n,vi 0]))(hhb:AFn (cx (zch u)) 28 [bk most ss ms.reverse] (.tup [vi n,vi 0]))
  (hsu:AFn (cx (zch u)) 16 [bk most ss ms,vi K,vi A] (.tup [.agg [vi x0,vi x1],vi z])) (hsv:AFn (cx (zch u)) 16 [bk most ss ms.reverse,vi K,vi A] (.tup [.agg [vi x0,vi x1],vi z]))
  (hfw:AFn (cx (zch u)) 20 [bk most ss ms] (.tup [.sl 1 (il F),vi zf])) (hfx:AFn (cx (zch u)) 20 [bk most ss ms.reverse] (.tup [.sl 1 (il F2),vi zf])) (hl:F2.length=F.length) :
  GoT u ysa 5 Q ((2*3,.av (.val (.int .u8 kind)))::(stO most slip sum ss ms++[(2*1000+1,.buf 5 76 (ms.reverse.map SumR.row))])):=by
 have q1:(!decide (n=n))=false:=by simp
 have q2:(!decide (z=z))=false:=by simp
 have q3:(!decide (zf=zf))=false:=by simp
 have q5:decide (((il F).length:Int)=((il F2).length:Int))=true:=decide_eq_true (by simp [hl])
 have q4:(!decide (((il F).length:Int)=((il F2).length:Int)))=false:=by rw [q5];rfl
 have q0:(!decide ((0:Int)=0))=false:=rfl
 have q9:decide ((0:Int)=0)=true:=rfl
 refine yqp rfl Tryz.ntmps7 ?_
 (repeat' (first|exact yp4 h13 rfl Tryz.ntmps7 (by exact si)|(with_reducible refine gED ?_ (by kernel_rfl))|(refine g1 ?_ (by first|exact gdN rfl|exact gdT rfl rfl rfl) ⟨z27 (by decide) rfl rfl,z1y rfl rfl rfl⟩) |refine sy ?_|(refine aZ ?_;intros)|refine che2 ?_|(refine s2 ?_ ?_<;>intro h7<;>try omega)))
end
theorem che3{P G:Prop}(n:P)(h:Wr P→G:=by(intro n;first|((with_reducible apply kC);first|exact gB ⟨_,fit_a _ _ _,.mk rfl n.p⟩|exact gB ⟨_,hsum,.mk rfl n.p⟩|exact gK n.p|exact gS n.p)|exact⟨_,fit_a _ _ _,n.p⟩|exact⟨_,hsum,n.p⟩|exact sk n.p|exact ap n.p)):G:=h ⟨n⟩
theorem ysc(u:Nat→ByteArray)(hsum:AFn (cx (zch u)) 15 [] (vb true))(most:Int)(ss:List Slip)(ms:List SumR)(slip sum kind:Int)(hs0:0≤slip)(hs1:slip<256)(hm0:0≤sum)(hm1:sum<256)(hk0:0≤kind)(hk1:kind<256) :
  Top (cx (zch u)) 7 [bk most ss ms,.val (.int .u8 slip),.val (.int .u8 sum),.val (.int .u8 kind)] (vb true):=by
 refine top_by Tryz.func7 (by kernel_rfl) rfl Tryz.ntmps7 rfl rfl ?_ rfl
 refine zab fun Q hQ=>?_
 by_cases hfit:(ss.length≤20∧ms.length≤20)∧zak most ss ms=0
 case neg =>have hd1:decide ((ss.length≤20∧ms.length≤20)∧zak most ss ms=0)=false:=decide_eq_false hfit;(repeat' (first|exact yp4 h5 rfl Tryz.ntmps7 (by exact si) |refine sy ?_|(refine aZ ?_;intros)|refine che3 ?_|(refine s2 ?_ ?_<;>intro h7<;>try omega)));refine fe ?_;rfl
 have hd1:decide ((ss.length≤20∧ms.length≤20)∧zak most ss ms=0)=true:=decide_eq_true hfit
 obtain⟨⟨hn,hm⟩,hc⟩:=hfit
 have hg:=(za2 most ss ms).1 hc
 have hm':ms.reverse.length≤20:=by simpa using hm
 have hc':=(za2 _ _ _).2 (yry hg)
 have hw:=whatL_a (G:=zch u) kind hk0 hk1
 have hha:=zkg (u:=u) most ss ms hn hm
 have hhb:=zkg (u:=u) most ss ms.reverse hn hm'
 rw [show zr3 most ss ms=(((zah most ss ms).length:Int),0) by simp [zr3,hc]] at hha
 rw [show zr3 most ss ms.reverse=(((zah most ss ms).length:Int),0) by simp [zr3,hc',yru]] at hhb
 have hsu:=sum_a (u:=u) most ss ms (yki kind) (ykj kind) hn hm
 have hsv:=sum_a (u:=u) most ss ms.reverse (yki kind) (ykj kind) hn hm'
 rw [yr9 hg] at hsv
 obtain⟨f1,f2⟩:=ysb hg
 have hfw:=zwk (u:=u) most ss ms hn hm
 have hfx:=zwk (u:=u) most ss ms.reverse hn hm'
 have h14:GoT u ysa 14 Q (stO most slip sum ss ms++[(2*1000+1,.frz 5 (ms.reverse.map SumR.row))]):=any14 hsum hs0 hs1 (fun hne=>by
  have a1:=ymf (u:=u) most ss ms (slip % ((ss.map Slip.row).length:Int)) hn hm;have a2:=ymf (u:=u) most ss ms.reverse (slip % ((ss.map Slip.row).length:Int)) hn hm';rw [ysd hg,yrx hg] at a2;have hl:(ym3 most ss ms (slip % ((ss.map Slip.row).length:Int))).length≤100000:=ymt hg _;have a3:=zg5 (G:=zch u) _ _ hl hl;rw [decide_eq_true rfl] at a3;exact⟨_,_,a1,a2,a3⟩) hQ
 have h13:=any13 (sum:=sum) hm h14 hm0 hm1 (fun hne=>by
  have hlm:((ms.map SumR.row).length:Int)=(ms.length:Int):=by simp
  have hr:0≤sum % ((ms.map SumR.row).length:Int)∧sum % ((ms.map SumR.row).length:Int)<((ms.map SumR.row).length:Int):=⟨Int.emod_nonneg _ (by omega),Int.emod_lt_of_pos _ (by omega)⟩;generalize sum % ((ms.map SumR.row).length:Int)=ii at hr;obtain⟨k,hk⟩:∃k:Nat,ii=(k:Int):=⟨ii.toNat,by omega⟩
  obtain⟨j,hj⟩:∃j:Nat,((ms.map SumR.row).length:Int)-1-ii=(j:Int):=⟨(((ms.map SumR.row).length:Int)-1-ii).toNat,by omega⟩;have a1:=zuj (u:=u) most ss ms ii hn hm;have a2:=zuj (u:=u) most ss ms.reverse (j:Int) hn hm';rw [yr5 hg (i:=k) (j:=j) (by omega),←hk,←hj] at a2;exact⟨_,_,a1,a2⟩)
 clear h14
 have h5:=any5 (kind:=kind) (n:=((zah most ss ms).length:Int)) h13 hw hha hhb hsu hsv (F:=(zjw most ss ms).1) (F2:=(zjw most ss ms.reverse).1) (zf:=(zjw most ss ms).2) (yr3 (yr4 most ss ms) hfw) (f1▸yr3 (yr4 most ss ms.reverse) hfx) f2
 clear h13 hw hha hhb hsu hsv hfw hfx
 have hN:((ms.map SumR.row).length:Int)=(ms.length:Int):=by simp
 (repeat' (first|exact yp4 h5 rfl Tryz.ntmps7 (by exact si) |refine sy ?_|(refine aZ ?_;intros)|refine che3 ?_|(refine s2 ?_ ?_<;>intro h7<;>try omega)))
 refine zbx (zh1 9 2 1000 5 76 rfl rfl rfl) ?_
 refine zam ms.length (fun i=>[(2*1,.av (.val (.int .u8 slip))),(2*2,.av (.val (.int .u8 sum))),(2*3,.av (.val (.int .u8 kind))),(2*4,.av (.ptr 4 0)),(2*4+1,.cells 25 [vi most,.sl 7 (ss.map Slip.row),.sl 5 (ms.map SumR.row)]),(2*9,.av (.ptr 9 0)),(2*9+1,.cells 25 [vi most,.sl 7 (ss.map Slip.row),.own 1000]),(2*10,.av (vi ((ms.map SumR.row).length:Int))),(2*1000+1,.buf 5 76 ((ms.reverse.take i).map SumR.row)),(2*11,.av (vi (((ms.map SumR.row).length:Int)-1-(i:Int))))]) ?_ ?_
 ·have e0:vi (((ms.map SumR.row).length:Int)-1-((0:Nat):Int))=vi (((ms.map SumR.row).length:Int)-1):=by simp
  rw [e0];exact si
 ·intro i hi;rcases kae i ms.length with hlt|hge
  ·obtain⟨j,hj⟩:∃j:Nat,((ms.map SumR.row).length:Int)-1-(i:Int)=(j:Int):=⟨ms.length-1-i,by omega⟩;have hjl:j<ms.length:=by omega
   have hd:decide ((0:Int)≤((ms.map SumR.row).length:Int)-1-(i:Int))=true:=decide_eq_true (by omega);obtain⟨m,hms⟩:∃m,ms[j]?=some m:=⟨_,kaa hjl⟩;have hrow:(ms.map SumR.row)[j]?=some m.row:=by simp [hms]
   have hil:j<(ms.map SumR.row).length:=by simpa using hjl
   have hrv:ms.reverse[i]?=some m:=by rw [List.getElem?_reverse hlt,show ms.length-1-i=j by omega];exact hms
   have hsucc:(ms.reverse.take (i+1)).map SumR.row=(ms.reverse.take i).map SumR.row++[m.row]:=by rw [kb8,hrv,kbt];rfl
   have h1000:((ms.reverse.take i).map SumR.row).length+1≤1000000000:=by simp;omega
   have hi1:vi (((ms.map SumR.row).length:Int)-1-((i+1:Nat):Int))=vi (((ms.map SumR.row).length:Int)-1-(i:Int)-1):=congrArg vi (by omega);(repeat' (first|exact yp4 h5 rfl Tryz.ntmps7 (by exact si) |refine sy ?_|(refine aZ ?_;intros)|refine che3 ?_|(refine s2 ?_ ?_<;>intro h7<;>try omega)));refine⟨hlt,?_⟩;rw [hsucc,hi1];refine zbg (rn1 1000 59) ?_ rfl rfl;exact sr
  ·obtain rfl:i=ms.length:=by omega
   have hd:decide ((0:Int)≤((ms.map SumR.row).length:Int)-1-(ms.length:Int))=false:=decide_eq_false (by omega);rw [show ms.reverse.take ms.length=ms.reverse by rw [←List.length_reverse,kdl]];(repeat' (first|exact yp4 h5 rfl Tryz.ntmps7 (by exact si) |refine sy ?_|(refine aZ ?_;intros)|refine che3 ?_|(refine s2 ?_ ?_<;>intro h7<;>try omega)))
end
end Go.Ab.J
namespace Go.Proofs.YtbghfeeibnmlbaaGreatDoor
open Go Go.Ab Go.ChangeShapes Go.WideShapes Go.ChangeAt Go.RowKit Go.Conc Go.ConcM Go.Ab.J
theorem z0b:Tryz.f7.params=#[25,5,5,5]:=by kernel_rfl
set_option maxRecDepth 100000 in
theorem yaa(hlaw:∀u most ss ms a1 a2 a3,0≤a1→a1<256→0≤a2→a2<256→0≤a3→a3<256→Top (cx (zch u)) 7 [bk most ss ms,.val (.int .u8 a1),.val (.int .u8 a2),.val (.int .u8 a3)] (.val (.bool true)))
  (os:Os) (started:os.Started) (H:Type) (enc:TypeId×Value→H) (F:Stop.Interp) :
  ReturnsInLeavingWide Rows.salesAnyOrderRow.assume Tryz.checked os 7 .any (fun w args=>(Rows.salesAnyOrderSpec.pre enc Tryz.prog Tryz.f7 [] false w args∧laidMetH Tryz.prog Rows.salesAnyOrderRow.laid w)∧sizedMet enc Tryz.prog Tryz.f7 (OpenSpec.ofChange Rows.salesAnyOrderSpec) false w args)
   ((OpenSpec.ofChange Rows.salesAnyOrderSpec).postWith enc Tryz.prog Tryz.f7 F (outsideKept [.timePasses]) false true false):=by
 refine zt2 (C:=Tryz.checked) (X:=fun w _=>laidMetH Tryz.prog Rows.salesAnyOrderRow.laid w) (fun _ _ _ hh h=>h.of_heap hh.symm) own0 started Tryz.func7
  (zqz (C:=Tryz.checked) (enc:=enc) (os:=os) (X:=fun w _=>laidMetH Tryz.prog Rows.salesAnyOrderRow.laid w) (World.doorLaid Tryz.prog 30 os) #[.agg #[.int .i64 0,.slice none 0 0,.slice none 0 0],.int .u8 0,.int .u8 0,.int .u8 0] 8 rfl (World.shaped_of_RefB (by kernel_rfl) (by kernel_rfl)) (by kernel_rfl) (by kernel_rfl) (by kernel_rfl) (door_met os _)) ?_
 intro W base args ds gs before hval0 hW hL
 have hval:∀(j:Nat) t v,Tryz.f7.params[j]?=some t→args[j]?=some v→Value.okWide Tryz.prog W .any base t v:=hval0
 have hW':=hW
 obtain⟨p,q,hA0,hV,rfl,_,_⟩:=hW
 have hA:DataW.TrodAll enc Tryz.prog W 0 (fun _=>true) true Tryz.f7.params.toList args.toList ds p:=hA0
 rw [z0b] at hA hval
 obtain⟨v0,v1,v2,v3,d0,d1,d2,d3,p0,p1,p2,p3,rfl,rfl,rfl,h0,h1,h2,h3⟩:=trodAll_four hA
 obtain⟨rfl,rfl⟩:=trodVars_none hV
 have l0:∀x∈p0,x.block<W.heap.size:=fun x hx=>by simpa using hW'.lt x (by simp [hx])
 have l1:∀x∈p1,x.block<W.heap.size:=fun x hx=>by simpa using hW'.lt x (by simp [hx])
 have l2:∀x∈p2,x.block<W.heap.size:=fun x hx=>by simpa using hW'.lt x (by simp [hx])
 have l3:∀x∈p3,x.block<W.heap.size:=fun x hx=>by simpa using hW'.lt x (by simp [hx])
 obtain⟨most,ss,ms,r0⟩:=z2o (hval 0 25 v0 rfl rfl) h0
 obtain⟨a1,rfl,_,_,w1⟩:=open_int u_u8 (hval 1 5 v1 rfl rfl) h1
 have r1:Rep (zca (zd0 W)) W (.val (.int .u8 a1)) (.int .u8 a1):=.val _
 obtain⟨a2,rfl,_,_,w2⟩:=open_int u_u8 (hval 2 5 v2 rfl rfl) h2
 have r2:Rep (zca (zd0 W)) W (.val (.int .u8 a2)) (.int .u8 a2):=.val _
 obtain⟨a3,rfl,_,_,w3⟩:=open_int u_u8 (hval 3 5 v3 rfl rfl) h3
 have r3:Rep (zca (zd0 W)) W (.val (.int .u8 a3)) (.int .u8 a3):=.val _
 obtain⟨u,hu⟩:=zza hL
 clear hA0 hval0
 refine(hlaw u most ss ms a1 a2 a3 (u8_range w1).1 (u8_range w1).2 (u8_range w2).1 (u8_range w2).2 (u8_range w3).1 (u8_range w3).2).run _ (zd0 W) W _ (fun b hb=>zx7 hb) (fun b o hb ho=>?_) hu ?_ fun v w' hkeep hsize hos hout hv=>?_
 ·obtain⟨c,t,f,e⟩:=hb;rw [e] at ho;obtain rfl:=kaw ho
  trivial
 ·exact((((rNil).cons r3).cons r2).cons r1).cons r0
 ·obtain⟨_,hv⟩:=hv;obtain rfl:=hv.val_eq
  have hbel:Below W.heap.size W { w' with os:=W.os,tape:=W.tape }:=⟨rfl,rfl,hout,hsize,hkeep⟩
  exact⟨⟨_,_,_,[],_,[],hW',trodAll_mk1 (shut_bool z7g _),DataW.TrodAll.of_heap (w:={ w' with os:=W.os,tape:=W.tape }) (by rfl) (trodAll_mk4 (Below.trod laidOut0 (by kernel_rfl) (of_decide_eq_true (by kernel_rfl)) h0 hbel l0) (Below.trod laidOut0 (by kernel_rfl) (of_decide_eq_true (by kernel_rfl)) h1 hbel l1) (Below.trod laidOut0 (by kernel_rfl) (of_decide_eq_true (by kernel_rfl)) h2 hbel l2) (Below.trod laidOut0 (by kernel_rfl) (of_decide_eq_true (by kernel_rfl)) h3 hbel l3)),rfl,kept_of (hbel.frame _),fun h=>by cases h⟩,hos⟩
theorem kfN:Tryz.checked.prog.funcNamed Rows.salesAnyOrderRow.func=some 7:=by kernel_rfl
theorem kfJ:joinedFacts Tryz.checked.prog 7 Tryz.f7 Rows.salesAnyOrderSpec Rows.salesAnyOrderRow=true:=by kernel_rfl
theorem kfI:Tryz.f7.isInstance Tryz.checked.prog Rows.salesAnyOrderRow.origin Rows.salesAnyOrderRow.targs:=of_decide_eq_true (by kernel_rfl)
theorem kfP:Tryz.f7.isWrapper Tryz.checked.prog Rows.salesAnyOrderRow.wrapper Rows.salesAnyOrderRow.mainSum:=by unfold Func.isWrapper;first|(rw [if_pos (by decide +kernel)];kernel_rfl)|(rw [if_neg (by decide +kernel)];exact⟨rfl,rfl⟩)
theorem kfW:Rows.salesAnyOrderRow.wfByText (OpenSpec.ofChange Rows.salesAnyOrderSpec)=true:=by kernel_rfl
theorem kfM : Tryz.checked.prog.mainIs = some (true, "29e4bc56b4cfdc3cc5c4aad648f5eca0653f61613beb5e82a27b472fb4c02e17".toList) := by kernel_rfl
theorem kfL:false=Tryz.checked.prog.looks []:=by kernel_rfl
theorem kfS:([25,5,5,5].all fun u=>!Tryz.prog.wantsStandIn u)=true:=by kernel_rfl
theorem kfG:true=Rows.salesAnyOrderRow.goesBy Tryz.checked.prog:=by kernel_rfl
theorem yox(hlaw:∀u most ss ms a1 a2 a3,0≤a1→a1<256→0≤a2→a2<256→0≤a3→a3<256→Top (cx (zch u)) 7 [bk most ss ms,.val (.int .u8 a1),.val (.int .u8 a2),.val (.int .u8 a3)] (.val (.bool true))):Rows.SalesAnyOrderSaid :=
 OpenClaim.holds_of_wide_leaving_time 7 Tryz.f7 rfl rfl rfl rfl rfl rfl rfl ⟨rfl,rfl,rfl,rfl,rfl⟩ rfl rfl rfl rfl rfl kfN Tryz.func7 kfJ kfI kfP (fun os started H enc _ F=>yaa hlaw os started H enc F)
theorem ybe(hlaw:∀u most ss ms a1 a2 a3,0≤a1→a1<256→0≤a2→a2<256→0≤a3→a3<256→Top (cx (zch u)) 7 [bk most ss ms,.val (.int .u8 a1),.val (.int .u8 a2),.val (.int .u8 a3)] (.val (.bool true))):Rows.SalesAnyOrderCardSaid :=
 zmn .later [.funcs, .funcs] true (true, "29e4bc56b4cfdc3cc5c4aad648f5eca0653f61613beb5e82a27b472fb4c02e17") false (yox hlaw) kfW salesAnyOrder_row_tie rfl ⟨rfl, rfl⟩ kfM rfl
  (fun f fn hf hfn=>by
    obtain rfl:f=7:=kaw (kfN.symm.trans hf) |>.symm;obtain rfl:fn=Tryz.f7:=(kaw (Tryz.func7.symm.trans hfn)).symm
    exact⟨kfL,fun j t ht=>by
     rw [z0b] at ht;have hm:t∈[25,5,5,5]:=by simpa using kbl ht
     exact(show Tryz.prog.wantsStandIn t=false by simpa using kar.1 kfS t hm)⟩) kfG
end Go.Proofs.YtbghfeeibnmlbaaGreatDoor
namespace Go.Proofs.YtbghfeeibnmlbaaGreatDoor
open Go Go.Ab Go.Ab.J
theorem salesAnyOrder_holds:Rows.SalesAnyOrderCardSaid:=ybe fun u most ss ms a1 a2 a3 h0 h1 h2 h3 h4 h5=>ysc u summed_a most ss ms a1 a2 a3 h0 h1 h2 h3 h4 h5
end Go.Proofs.YtbghfeeibnmlbaaGreatDoor
