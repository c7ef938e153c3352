/- What all laws about sales rest on, beside any goroutines. Conditions: none. -/
import Derived.Test.YtfgciihkmemdlaaGreatDoorZr
namespace Go.Ab.J
open Go Go.Proofs Go.Kp Go.RowKit
section
variable{G:zbf}{u:Nat->ByteArray}{E:Env}{w:World}
attribute [local irreducible] AOp AW ADr AFn ze1 AFt AOpJ
set_option maxRecDepth 20000
set_option maxHeartbeats 8000000
theorem Good.bok{most:Int}{ss:List Slip}{ms:List SumR}(h:Good most ss ms):z80 ss ms :=
 ⟨h.nss,h.nms,λm hm=>by have:=(h.sum m hm).1;omega,λi s hs hk=>by have:=(h.slip i s hs).for3 hk;omega,λi s hs hk=>by have:=(h.slip i s hs).for5 hk;omega⟩
theorem Good.lo{most:Int}{ss:List Slip}{ms:List SumR}(h:Good most ss ms):∀s∈ss,0<=s.lo/\s.hi<=999:=λs hs=>by obtain⟨i,hi⟩:=kba hs;have:=(h.slip i s hi).amt;omega
def zc0(ss:List Slip)(p:zd6):List Int:=zhq ss p.1 p.2 ss.length
def agP(most:Int)(ss:List Slip)(ms:List SumR)(p:zd6):Bool:=zeh most ss ms (zc0 ss p)
def zah(most:Int)(ss:List Slip)(ms:List SumR):List zd6:=(zgf ss).filter (agP most ss ms)
def amV(l:List Int):Value:=.agg #[.int .i64 (l.getD 0 0),.int .i64 (l.getD 1 0),.int .i64 (l.getD 2 0),.int .i64 (l.getD 3 0),.int .i64 (l.getD 4 0),.int .i64 (l.getD 5 0)]
def knU(most:Int)(ss:List Slip)(ms:List SumR):List zd6->List (Am6×Value)
 | []=>[]
 | p::ps=>match zb4 (t6 (zc0 ss p)) (knU most ss ms ps) 0 with
   | some _=>knU most ss ms ps
   | none=>knU most ss ms ps++[(t6 (zc0 ss p),.bool (agP most ss ms p))]
theorem yc5{a b:List Int}(ha:a.length=6)(hb:b.length=6)(h:t6 a=t6 b):a=b:=by rw [z7z a ha,z7z b hb];simp only [t6,Prod.mk.injEq] at h;rw [h.1,h.2.1,h.2.2.1,h.2.2.2.1,h.2.2.2.2.1,h.2.2.2.2.2]
theorem z03(most:Int)(ss:List Slip)(ms:List SumR):∀(ps:List zd6),∀k v,(k,v)∈knU most ss ms ps->∃p,k=t6 (zc0 ss p)/\v=.bool (agP most ss ms p)
 | [],k,v,h=>by cases h
 | p::ps,k,v,h=>by
   simp only [knU] at h;split at h
   .exact z03 most ss ms ps k v h
   .rcases kax.1 h with h|h
    .exact z03 most ss ms ps k v h
    .simp only [kcg,Prod.mk.injEq] at h;exact⟨p,h.1,h.2⟩
theorem ydj{most:Int}{ss:List Slip}{ms:List SumR}{ps:List zd6}{p:zd6}{j:Nat}{v:Value}(h:zb4 (t6 (zc0 ss p)) (knU most ss ms ps) 0=some (j,v)):v=.bool (agP most ss ms p):=by obtain⟨k,_,hk⟩:=zlg h;obtain⟨q,h1,h2⟩:=z03 most ss ms ps _ _ (kag hk);have:zc0 ss p=zc0 ss q:=yc5 (zfy _ _ _ _) (zfy _ _ _ _) h1;rw [h2];simp only [agP,this]
theorem Good.for5{most:Int}{ss:List Slip}{ms:List SumR}(h:Good most ss ms):∀(i:Nat) (s:Slip),ss[i]?=some s->s.kind=5->0<=s.for_/\s.for_<(i:Int):=λi s hs hk=>by have:=(h.slip i s hs).for5 hk;omega
theorem zpm(p:zd6):Rep E w (psA p) (z0a p.1 p.2):=by
 have h:=(((((((((((((yf1.nil E w).cons (.val (.bool (p.2.getD 5 false)))).cons (.val (.bool (p.2.getD 4 false)))).cons (.val (.bool (p.2.getD 3 false)))).cons (.val (.bool (p.2.getD 2 false)))).cons (.val (.bool (p.2.getD 1 false)))).cons (.val (.bool (p.2.getD 0 false)))).cons (.val (.int .i64 (p.1.getD 5 0)))).cons (.val (.int .i64 (p.1.getD 4 0)))).cons (.val (.int .i64 (p.1.getD 3 0)))).cons (.val (.int .i64 (p.1.getD 2 0)))).cons (.val (.int .i64 (p.1.getD 1 0)))).cons (.val (.int .i64 (p.1.getD 0 0))))
 exact .agg _ _ h.1 h.2
theorem z2y(l:List Int):Rep E w (amA l) (amV l):=by have h:=(((((((yf1.nil E w).cons (.val (.int .i64 (l.getD 5 0)))).cons (.val (.int .i64 (l.getD 4 0)))).cons (.val (.int .i64 (l.getD 3 0)))).cons (.val (.int .i64 (l.getD 2 0)))).cons (.val (.int .i64 (l.getD 1 0)))).cons (.val (.int .i64 (l.getD 0 0))));exact .agg _ _ h.1 h.2
def encH(ss:List Slip)(p:zd6):Array Value:=#[z0a p.1 p.2,amV (zc0 ss p)]
theorem z40(a:Am6):za3 (ekA a):=.agg _ λv hv=>by simp at hv;rcases hv with rfl|rfl|rfl|rfl|rfl|rfl<;>exact .int _ _
theorem z6a{l:List Int}{v:Value}(h:Rep E w (amA l) v):v=ekA (t6 l):=ztq h
theorem zqb{l:List Int}{v:Value}(h:Rep E w (amA l) v):za3 v:=by rw [z6a h];exact z40 _
theorem zs9{P G:Prop}(n:P)(h:Wr P->G:=by(intro n;first|((with_reducible apply kC);first|exact gB ⟨_,zet _ _ _,.mk rfl n.p⟩|exact gB ⟨_,zx3 _ _ _ _ hg.nss hg.for5,.mk rfl n.p⟩|exact gB ⟨_,zsw _ _ _ _ hg.bok hab,.mk rfl n.p⟩|exact gK n.p|exact gS n.p)|exact⟨_,zet _ _ _,n.p⟩|exact⟨_,zx3 _ _ _ _ hg.nss hg.for5,n.p⟩|exact⟨_,zsw _ _ _ _ hg.bok hab,n.p⟩|exact sk n.p|exact ap n.p)):G:=h ⟨n⟩
theorem z73{most:Int}{ss:List Slip}{ms:List SumR}(hg:Good most ss ms):zs6 (cx (zch u)) 149 [zqu most ss ms] (encH ss) (zah most ss ms):=by
 refine zwb Tryz.func149 rfl Tryz.ntmps149 rfl rfl rfl rfl λPost l Jx n hA=>?_;refine znl λP hP=>?_;(repeat' (first|refine sx ?_|refine zs9 ?_|fail));refine znl λP hP=>?_;refine wR ?_;refine z8n rfl (zax (zs2 oe rfl) (zkj rfl)) ?_;(repeat' (first|refine sx ?_|refine zs9 ?_|fail));refine znl λP hP=>?_;(repeat' (first|refine sx ?_|refine zs9 ?_|fail));refine zi8 ?_
 refine zss (encV:=λp:zd6=>#[z0a p.1 p.2]) (λp:zd6=>[psA p]) [(2*10,.av (.fn (.func 121) [] [zqu most ss ms])),(2*1,.av (zqu most ss ms)),(2*2,.av (.ptr 2 0)),(2*3,.av (.ptr 3 0))]
  (λpre=>[(2*2+1,.cells 192 [.val (.func (.yield l) #[] #[])]),(2*3+1,.cells 193 [.own 8]),(2*8+1,.mp (zum ekA (knU most ss ms pre.reverse)))]) (λpre=>pre.filter (agP most ss ms))
  ?_ rfl rfl rfl (z8k most ss ms hg.nss hg.lo) (λ_=>rfl) (λp E w=>(yf1.nil E w).cons (zpm p)) (λ_=>rfl) oe (λpre t=>?_) (λt ht=>?_) (λl' pre x rest hxs=>?_) ⟨.inl rfl,rfl⟩
 .exact si
 .refine Classical.byContradiction λh=>?_;have:=zc1.1 h;simp at this;omega
 .have:=zc1.1 ht;simp at this;have:t=10\/t=1\/t=2\/t=3:=oc
  rcases this with rfl|rfl|rfl|rfl<;>exact⟨rfl,rfl,oe⟩
 have hxm:x∈zgf ss:=by rw [hxs];simp
 obtain⟨hx6,hxa⟩:=zna ss hg.lo x hxm;have hab:zhn (zhq ss x.1 x.2 ss.length):=zh6 ss x.1 x.2 hxa ss.length;refine awN λP hP=>?_;(repeat' (first|refine sx ?_|refine zs9 ?_|fail));intro l2;refine zi8 ?_;refine znl λP hP=>?_;(repeat' (first|refine sx ?_|refine zs9 ?_|fail));have hrev:(pre++[x]).reverse=x::pre.reverse:=od
 have hfil:zah most ss ms=pre.filter (agP most ss ms)++(if agP most ss ms x then x::rest.filter (agP most ss ms) else rest.filter (agP most ss ms)):=by unfold zah;rw [hxs,kch,kdk]
 have hout:(pre++[x]).filter (agP most ss ms)=if agP most ss ms x then pre.filter (agP most ss ms)++[x] else pre.filter (agP most ss ms):=by rw [kch,kdk,kd0];split<;>simp
 refine znl λP hP=>?_;cases hf:zb4 (t6 (zc0 ss x)) (knU most ss ms pre.reverse) 0 with
 | some jv =>
   obtain⟨j,v⟩:=jv;have hv:=ydj hf;subst hv;have hkn:knU most ss ms (pre++[x]).reverse=knU most ss ms pre.reverse:=by rw [hrev];simp only [knU,hf]
   refine wR ?_;(repeat' (first|refine sx ?_|refine zs9 ?_|fail));refine zg2 rfl (zax (z3a z2x zo8 oe rfl rfl rfl (λE w v h=>z6a h) hf) (zer rfl rfl ⟨_,rfl,λE w v h=>zqb h⟩ rfl)) ?_;(repeat' (first|refine sx ?_|refine zs9 ?_|fail));refine znl λP hP=>?_;(repeat' (first|refine sx ?_|(refine aZ ?_;intros)|refine zs9 ?_|fail));rcases ka1 (agP most ss ms x) with hag|hag
   .rw [hag,if_pos rfl] at hfil hout;rw [hag];refine zcq (zb0 hA ?_);(repeat' (first|refine j1 ?_|refine jF ?_|refine jE ?_));refine jY ?_ (λE w vs h=>?_) hfil
    ·(repeat' (first|refine j1 ?_|refine jF ?_|refine jE ?_));refine ybk λP hP=>?_;(repeat' (first|refine sx ?_|refine zs9 ?_|fail));refine⟨rfl,hout.symm,?_⟩;show Sub _ _ _ (_++[_,_,(2*8+1,.mp (zum ekA (knU most ss ms (pre++[x]).reverse)))]);rw [hkn];exact si
    .obtain⟨v,vs,rfl,h1,h2⟩:=h.inv;obtain⟨v2,vs,rfl,h3,h4⟩:=h2.inv;have:vs=[]:=kas h4.1.symm;subst this;rw [ztp h1,ztq h3];rfl
   .rw [hag,if_neg od] at hfil hout;rw [hag];refine zcq (zb0 hA ?_);(repeat' (first|refine j1 ?_|refine jF ?_|refine jE ?_));refine ybk λP hP=>?_;(repeat' (first|refine sx ?_|refine zs9 ?_|fail));refine⟨rfl,hout.symm,?_⟩;show Sub _ _ _ (_++[_,_,(2*8+1,.mp (zum ekA (knU most ss ms (pre++[x]).reverse)))]);rw [hkn];exact si
 | none =>
   have hkn:knU most ss ms (pre++[x]).reverse=knU most ss ms pre.reverse++[(t6 (zc0 ss x),.bool (agP most ss ms x))]:=by rw [hrev];simp only [knU,hf]
   refine wR ?_;(repeat' (first|refine sx ?_|refine zs9 ?_|fail));refine zg2 rfl (zax (z3b z2x zo8 zyw oe rfl rfl rfl (λE w v h=>z6a h) hf) (zer rfl rfl ⟨_,rfl,λE w v h=>zqb h⟩ rfl)) ?_;(repeat' (first|refine sx ?_|refine zs9 ?_|fail));refine znl λP hP=>?_;(repeat' (first|refine sx ?_|(refine aZ ?_;intros)|refine zs9 ?_|fail))
   refine zg2 rfl (zax (zkm z2x zo8 rfl rfl rfl (λE w v h=>z6a h) rfl hf) (zdh rfl rfl ⟨_,rfl,λE w v h=>zqb h⟩ rfl)) ?_;(repeat' (first|refine sx ?_|refine zs9 ?_|fail));rcases ka1 (agP most ss ms x) with hag|hag
   .rw [hag,if_pos rfl] at hfil hout;have hag2:zeh most ss ms (zhq ss x.1 x.2 ss.length)=_:=hag;rw [hag] at hkn;rw [hag2];refine zcq (zb0 hA ?_);(repeat' (first|refine j1 ?_|refine jF ?_|refine jE ?_));refine jY ?_ (λE w vs h=>?_) hfil
    ·(repeat' (first|refine j1 ?_|refine jF ?_|refine jE ?_));refine ybk λP hP=>?_;(repeat' (first|refine sx ?_|refine zs9 ?_|fail));refine⟨rfl,hout.symm,?_⟩;show Sub _ _ _ (_++[_,_,(2*8+1,.mp (zum ekA (knU most ss ms (pre++[x]).reverse)))]);rw [hkn];exact si
    .obtain⟨v,vs,rfl,h1,h2⟩:=h.inv;obtain⟨v2,vs,rfl,h3,h4⟩:=h2.inv;have:vs=[]:=kas h4.1.symm;subst this;rw [ztp h1,ztq h3];rfl
   .rw [hag,if_neg od] at hfil hout;have hag2:zeh most ss ms (zhq ss x.1 x.2 ss.length)=_:=hag;rw [hag] at hkn;rw [hag2];refine zcq (zb0 hA ?_);(repeat' (first|refine j1 ?_|refine jF ?_|refine jE ?_));refine ybk λP hP=>?_;(repeat' (first|refine sx ?_|refine zs9 ?_|fail));refine⟨rfl,hout.symm,?_⟩;show Sub _ _ _ (_++[_,_,(2*8+1,.mp (zum ekA (knU most ss ms (pre++[x]).reverse)))]);rw [hkn]
    exact si
end
section
variable{G:zbf}{u:Nat->ByteArray}{E:Env}{w:World}
attribute [local irreducible] AOp AW ADr AFn ze1 AFt AOpJ
set_option maxRecDepth 20000
set_option maxHeartbeats 8000000
abbrev psR(hs:List zd6):List (List AV):=hs.map psL
abbrev amR(ss:List Slip)(hs:List zd6):List (List AV):=hs.map λp=>amL (zc0 ss p)
def opA(most:Int)(ss:List Slip)(ms:List SumR):AV:=.agg [vi most,.sl 7 (ss.map Slip.row),.sl 5 (ms.map SumR.row),.sl 12 (psR (zah most ss ms)),.sl 6 (amR ss (zah most ss ms))]
def op0:AV:=.agg [vi 0,.val (.slice none 0 0),.val (.slice none 0 0),.val (.slice none 0 0),.val (.slice none 0 0)]
def zbt(most:Int)(ss:List Slip)(ms:List SumR)(own:Int):Int:=if zak most ss ms≠0 then zak most ss ms else if own≠0 then own else if zah most ss ms=[] then 9 else 0
theorem zle(ss:List Slip)(h3:∀s∈ss,s.hi-s.lo<3):∀m i pw sg,(zks ss m i pw sg).length<=6 ^ m
 | 0,i,pw,sg=>by simp [zks]
 | m+1,i,pw,sg=>by
   have hw:(zbr (ss.getD i d7).lo (ss.getD i d7).hi).length<=3:=by
    rw [zl0];have:(ss.getD i d7).hi-(ss.getD i d7).lo<3:=by
     rcases kae i ss.length with h|h
     .rw [show ss.getD i d7=ss[i] by simp [h]];exact h3 _ (kbf h)
     .rw [show ss.getD i d7=d7 by simp [h]];decide
    omega
   have h5:(zks ss (m+1) i pw sg).length<=(zbr (ss.getD i d7).lo (ss.getD i d7).hi).length*(2*6 ^ m):=zoq λn _=>by have b:=zle ss h3 m (i+1) (pw.set i n) (sg.set i false);have c:=zle ss h3 m (i+1) (pw.set i n) (sg.set i true);rw [kbx];split<;>split<;>(try simp only [kbv])<;>omega
   have h4:=kcy (2*6 ^ m) hw;rw [Nat.pow_succ];omega
theorem Good.h3{most:Int}{ss:List Slip}{ms:List SumR}(h:Good most ss ms):∀s∈ss,s.hi-s.lo<3:=λs hs=>by obtain⟨i,hi⟩:=kba hs;have:=(h.slip i s hi).amt;omega
theorem zfd{most:Int}{ss:List Slip}{ms:List SumR}(h:Good most ss ms):(zah most ss ms).length<=46656:=by
 have h1:=zle ss h.h3 ss.length 0 [0,0,0,0,0,0] [false,false,false,false,false,false];have h2:6 ^ ss.length<=6 ^ 6:=kbi oe h.nss;have h4:=kbc (agP most ss ms) (zgf ss);have:6 ^ 6=46656:=oe
 unfold zah;unfold zgf at h4 |-;omega
theorem ya9{P G:Prop}(n:P)(h:Wr P->G:=by(intro n;first|((with_reducible apply kC);first|exact gB ⟨_,zbh _ _ _ hn hm,.mk rfl n.p⟩|exact gB ⟨_,zf2 _ _ _,.mk rfl n.p⟩|exact gK n.p|exact gS n.p)|exact⟨_,zbh _ _ _ hn hm,n.p⟩|exact⟨_,zf2 _ _ _,n.p⟩|exact sk n.p|exact ap n.p)):G:=h ⟨n⟩
theorem z5a(most:Int)(ss:List Slip)(ms:List SumR)(own:Int)(hn:ss.length<=20)(hm:ms.length<=20)(hb:zak most ss ms≠0\/own≠0):AFn (cx (zch u)) 54 [bk most ss ms,vi own] (.tup [op0,vi (zbt most ss ms own)]):=by
 refine aby Tryz.func54 Tryz.ntmps54 λQ hQ=>?_;by_cases h1:zak most ss ms=0
 .have hd1:decide (zak most ss ms=0)=true:=oa h1
  have h2:own≠0:=hb.resolve_left (by simp [h1]);have hd2:decide (own=0)=false:=oa h2
  (repeat' (first|refine sx ?_|(refine aZ ?_;intros)|refine ya9 ?_|fail));refine fe ?_;simp [zbt,h1,h2];rfl
 .have hd1:decide (zak most ss ms=0)=false:=oa h1
  (repeat' (first|refine sx ?_|(refine aZ ?_;intros)|refine ya9 ?_|fail));refine fe ?_;simp [zbt,h1];rfl
theorem eti0{G:Prop}(h:G:=by((repeat' (first|refine sx ?_|(refine aZ ?_;intros)|refine ya9 ?_|fail));refine fe ?_;rfl)):G:=h
theorem z0w{most:Int}{ss:List Slip}{ms:List SumR}(hg:Good most ss ms):AFn (cx (zch u)) 54 [bk most ss ms,vi 0] (if zah most ss ms=[] then .tup [op0,vi 9] else .tup [opA most ss ms,vi 0]):=by
 have hids:(if zah most ss ms=[] then AV.tup [op0,vi 9] else .tup [opA most ss ms,vi 0]).ids=[]:=by split<;>rfl
 refine zag Tryz.func54 rfl Tryz.ntmps54 rfl rfl rfl ?_ hids;refine zab λQ hQ=>?_;have hn:ss.length<=20:=by have:=hg.nss;omega
 have hm:ms.length<=20:=by have:=hg.nms;omega
 have hc:=(za2 most ss ms).2 hg;have hd1:decide (zak most ss ms=0)=true:=oa hc
 (repeat' (first|refine sx ?_|(refine aZ ?_;intros)|refine ya9 ?_|fail));refine zbx (zh1 7 3 1000 12 104 rfl rfl rfl) ?_;refine zbx (zh1 7 4 1001 6 99 rfl rfl rfl) ?_;refine zqj (encV:=encH ss) (λp:zd6=>[psA p,amA (zc0 ss p)]) [(2*25,.av (.fn (.func 149) [] [zqu most ss ms])),(2*4,.av (.ptr 4 0)),(2*7,.av (.ptr 7 0))]
  (λpre=>[(2*4+1,.cells 92 [vi 0,.val (.slice none 0 0),.val (.slice none 0 0),.val (.slice none 0 0),.val (.slice none 0 0)]),(2*7+1,.cells 92 [vi most,.sl 7 (ss.map Slip.row),.sl 5 (ms.map SumR.row),.own 1000,.own 1001]),(2*1000+1,.buf 12 104 (psR pre)),(2*1001+1,.buf 6 99 (amR ss pre))])
  ?_ rfl rfl rfl (z73 hg) (λ_=>rfl) (λp E w=>((yf1.nil E w).cons (z2y _)).cons (zpm p)) (λ_=>rfl) oe (λpre t=>?_) (λt ht=>?_) (λl' pre x rest hxs=>?_) ?_
 .exact si
 .refine Classical.byContradiction λh=>?_;have:=zc1.1 h;simp at this;omega
 .have:=zc1.1 ht;simp at this;have:t=25\/t=4\/t=7:=oc
  rcases this with rfl|rfl|rfl<;>exact⟨rfl,rfl,oe⟩
 .have hlen:pre.length<=46656:=by have:=zfd hg;rw [hxs] at this;simp at this;omega
  have hl1:(psR pre).length+[psL x].length<=1000000000:=by simp;omega
  have hl2:(amR ss pre).length+[amL (zc0 ss x)].length<=1000000000:=by simp;omega
  have e1:psR (pre++[x])=psR pre++[psL x]:=od
  have e2:amR ss (pre++[x])=amR ss pre++[amL (zc0 ss x)]:=od
  refine awN λP hP=>?_;(repeat' (first|refine sx ?_|(refine aZ ?_;intros)|refine ya9 ?_|fail));intro l2;refine awN λP hP=>?_;(repeat' (first|refine sx ?_|(refine aZ ?_;intros)|refine ya9 ?_|fail));refine zbg (rn2 1000 32 1001 37) ?_ rfl rfl;exact sr
 .have hz:decide (((psR (zah most ss ms)).length:Int)=0)=decide (zah most ss ms=[]):=by
     cases zah most ss ms<;>simp
     omega
  by_cases h:zah most ss ms=[]
  .have hz2:decide (((psR (zah most ss ms)).length:Int)=0)=true:=by rw [hz];simpa using h
   rw [if_pos h] at hQ;exact eti0
  .have hz2:decide (((psR (zah most ss ms)).length:Int)=0)=false:=by rw [hz];simpa using h
   rw [if_neg h] at hQ;exact eti0
end
section
variable{G:zbf}{u:Nat->ByteArray}{E:Env}{w:World}
attribute [local irreducible] AOp AW ADr AFn ze1 AFt AOpJ
set_option maxRecDepth 20000
set_option maxHeartbeats 8000000
def yan(x:Int)(l:List Int):Int:=match l.findIdx? (λy=>decide (x=y)) with|some i=>(i:Int)|none=>-1
theorem z5h{x:Int}{l:List Int}{n:Nat}(hn:l.length=n)(h:∀i,i<n->l.getD i 0≠x):yan x l=-1:=by
 have:l.findIdx? (λy=>decide (x=y))=none:=kcb.2 λy hy=>by obtain⟨i,hi⟩:=kba hy;have:=h i (by rw [<-hn];exact(kab.1 hi).1);simp [hi] at this;simpa using λe=>this e.symm
 simp [yan,this]
theorem ydn{x:Int}{l:List Int}{i:Nat}(hi:i<l.length)(h:∀j,j<i->l.getD j 0≠x)(hx:l.getD i 0=x):yan x l=i:=by
 have:l.findIdx? (λy=>decide (x=y))=some i:=by rw [kbk];refine⟨hi,by simp [hi] at hx;simp [hx],λj hj=>?_⟩;have h1:=h j hj;simp [kd1 hj hi] at h1;simpa using λe=>h1 e.symm
 simp [yan,this]
theorem yam{x:Int}{l:List Int}:decide (0<=yan x l)=decide (x∈l):=by
 unfold yan;cases h:l.findIdx? (λy=>decide (x=y)) with
 | none =>
   have:=kcb.1 h;have:x∉l:=λhx=>by have:=this x hx;simp at this
   simp [this]
 | some i =>
   obtain⟨hi,h1,_⟩:=kbk.1 h
   have:x∈l:=by have e:x=l[i]:=oa h1
                rw [e];exact kbf hi
   simp [this]
theorem z1b(l:List Int)(x:Int)(hl:l.length<=100000):AFn (cx G) 160 [.sl 1 (il l),vi x] (vi (yan x l)):=by
 refine aby Tryz.func160 Tryz.ntmps160 λQ hQ=>?_;(repeat' (first|refine sx ?_|(refine aZ ?_;intros)|refine w0 ?_|fail));refine zbe l.length (λi=>∀j,j<i->l.getD j 0≠x) (λi=>[(2*0,.av (.sl 1 (il l))),(2*1,.av (vi x)),(2*7,.av (vi ((il l).length:Int))),(2*8,.av (vi i))]) (λj hj=>oc) ?_ ?_
 .exact si
 .intro i hi hP;rcases kae i l.length with hlt|hge
  .obtain⟨z,hz⟩:∃z,l[i]?=some z:=⟨_,kaa hlt⟩;have hzr:(il l)[i]?=some [vi z]:=zcm hz;have hzl:i<(il l).length:=by simp;omega
   have hgz:l.getD i 0=z:=by simp [hz]
   have hd:decide ((i:Int)<((il l).length:Int))=true:=by simp;omega
   by_cases hx:x=z
   .have hdx:decide (x=z)=true:=oa hx
    (repeat' (first|refine sx ?_|(refine aZ ?_;intros)|refine w0 ?_|fail));refine fe ?_;rw [ydn hlt hP (by rw [hgz,hx])]
   .have hdx:decide (x=z)=false:=oa hx
    (repeat' (first|refine sx ?_|(refine aZ ?_;intros)|refine w0 ?_|fail));refine⟨hlt,λj hj=>?_,?_⟩
    .rcases kae j i with h|h
     .exact hP j h
     .have:j=i:=oc
      subst this;rw [hgz];exactλe=>hx e.symm
    .exact si
  .have he:i=l.length:=oc
   subst he;have hd:decide ((l.length:Int)<((il l).length:Int))=false:=od
   (repeat' (first|refine sx ?_|(refine aZ ?_;intros)|refine w0 ?_|fail));refine fe ?_;rw [z5h rfl hP]
theorem ctj0{P G:Prop}(n:P)(h:Wr P->G:=by(intro n;first|((with_reducible apply kC);first|exact gB ⟨_,z1b _ _ hl,.mk rfl n.p⟩|exact gK n.p|exact gS n.p)|exact⟨_,z1b _ _ hl,n.p⟩|exact sk n.p|exact ap n.p)):G:=h ⟨n⟩
theorem zos(l:List Int)(x:Int)(hl:l.length<=100000):AFn (cx G) 116 [.sl 1 (il l),vi x] (vb (decide (x∈l))):=by refine aby Tryz.func116 Tryz.ntmps116 λQ hQ=>?_;(repeat' (first|refine sx ?_|(refine aZ ?_;intros)|refine ctj0 ?_|fail));refine fe ?_;rw [yam]
theorem ctj1{P G:Prop}(n:P)(h:Wr P->G:=by(intro n;first|((with_reducible apply kC);first|exact gB ⟨_,zdp _ _ _,.mk rfl n.p⟩|exact gK n.p|exact gS n.p)|exact⟨_,zdp _ _ _,n.p⟩|exact sk n.p|exact ap n.p)):G:=h ⟨n⟩
theorem etj0{G:Prop}(h:G:=by((repeat' (first|refine sx ?_|(refine aZ ?_;intros)|refine ctj1 ?_|fail));refine fe ?_;simp)):G:=h
theorem z1a(most:Int)(ss:List Slip)(ms:List SumR)(n:Int)(hm:ms.length<=20):AFn (cx G) 112 [bk most ss ms,vi n] (vb (decide (0<=n/\n<=(ms.length:Int)-1))):=by
 refine aby Tryz.func112 Tryz.ntmps112 λQ hQ=>?_;have hl:(ms.map SumR.row).length<=20:=oa hm
 exact etj0
theorem zla(most:Int)(ss:List Slip)(ms:List SumR)(n:Int)(hn:ss.length<=20):AFn (cx G) 76 [bk most ss ms,vi n] (vb (decide (0<=n/\n<=(ss.length:Int)-1))):=by
 refine aby Tryz.func76 Tryz.ntmps76 λQ hQ=>?_;have hl:(ss.map Slip.row).length<=20:=oa hn
 exact etj0
def zcg(p:Nat->Bool):Nat->Nat
 | 0=>0
 | n+1=>if p n then zcg p n+1 else zcg p n
theorem zjz(p:Nat->Bool):∀n,zcg p n<=n
 | 0=>kac _
 | n+1=>by have:=zjz p n;simp only [zcg];split<;>omega
def zpe(k n:Nat):Int:=if k=0 then 2 else if k=n then 1 else 0
theorem yci{P G:Prop}(n:P)(h:Wr P->G:=by(intro n;first|((with_reducible apply kC);first|exact gB ⟨_,hp _ hlt,.mk rfl n.p⟩|exact gK n.p|exact gS n.p)|exact⟨_,hp _ hlt,n.p⟩|exact sk n.p|exact ap n.p)):G:=h ⟨n⟩
theorem etj1{G:Prop}(h:G:=by((repeat' (first|refine sx ?_|(refine aZ ?_;intros)|refine yci ?_|fail));refine⟨hlt,?_⟩;exact si)):G:=h
theorem zvh{most:Int}{ss:List Slip}{ms:List SumR}(hg:Good most ss ms)(F:FuncId)(w1 w2:Nat)(r1 r2:List (List AV))(p:Nat->Bool)(hp:∀i,i<(zah most ss ms).length->AFn (cx (zch u)) F [vi i,.elt w1 r1 0 0,.elt w2 r2 0 0] (vb (p i))) :
  AFn (cx (zch u)) 98 [opA most ss ms,.fn (.func F) [] [.elt w1 r1 0 0,.elt w2 r2 0 0]] (vi (zpe (zcg p (zah most ss ms).length) (zah most ss ms).length)):=by
 refine aby Tryz.func98 Tryz.ntmps98 λQ hQ=>?_
 have hl6:=zfd hg
 have hr:=λhs:List zd6=>(show(psR hs).length=hs.length by simp)
 (repeat' (first|refine sx ?_|(refine aZ ?_;intros)|refine yci ?_|fail))
 refine zam (zah most ss ms).length (λi=>[(2*2,.av (.ptr 2 0)),(2*2+1,.cells 92 [vi most,.sl 7 (ss.map Slip.row),.sl 5 (ms.map SumR.row),.sl 12 (psR (zah most ss ms)),.sl 6 (amR ss (zah most ss ms))]),(2*1,.av (.fn (.func F) [] [.elt w1 r1 0 0,.elt w2 r2 0 0])),(2*9,.av (vi ((psR (zah most ss ms)).length:Int))),(2*10,.av (vi i)),(2*5,.av (vi (zcg p i:Int)))]) ?_ ?_
 .exact si
 .intro i hi;have hc:=zjz p i;rcases kae i (zah most ss ms).length with hlt|hge
  .have hd:decide ((i:Int)<((psR (zah most ss ms)).length:Int))=true:=by rw [hr];simpa using hlt
   have hi1:vi ((i+1:Nat):Int)=vi ((i:Int)+1):=od
   rcases ka1 (p i) with hpi|hpi
   .have hs1:vi (zcg p (i+1):Int)=vi ((zcg p i:Int)+1):=by simp [zcg,hpi]
    exact etj1
   .have hs1:vi (zcg p (i+1):Int)=vi (zcg p i:Int):=by simp [zcg,hpi]
    exact etj1
  .have he:i=(zah most ss ms).length:=oc
   subst he;have hd:decide (((zah most ss ms).length:Int)<((psR (zah most ss ms)).length:Int))=false:=by rw [hr];simp
   by_cases h0:zcg p (zah most ss ms).length=0
   .have hd0:decide ((zcg p (zah most ss ms).length:Int)=0)=true:=oa h0
    (repeat' (first|refine sx ?_|(refine aZ ?_;intros)|refine yci ?_|fail));refine fe ?_;simp [zpe,h0]
   .have hd0:decide ((zcg p (zah most ss ms).length:Int)=0)=false:=oa h0
    by_cases h1:zcg p (zah most ss ms).length=(zah most ss ms).length
    .have hd1:decide ((zcg p (zah most ss ms).length:Int)=((psR (zah most ss ms)).length:Int))=true:=decide_eq_true oS;(repeat' (first|refine sx ?_|(refine aZ ?_;intros)|refine yci ?_|fail));refine fe ?_;rw [zpe,if_neg h0,if_pos h1]
    .have hd1:decide ((zcg p (zah most ss ms).length:Int)=((psR (zah most ss ms)).length:Int))=false:=decide_eq_false oS;(repeat' (first|refine sx ?_|(refine aZ ?_;intros)|refine yci ?_|fail));refine fe ?_;rw [zpe,if_neg h0,if_neg h1]
theorem zhr{most:Int}{ss:List Slip}{ms:List SumR}{own:Int}(hn:ss.length<=20)(hm:ms.length<=20)(h:zbt most ss ms own≠0):AFn (cx (zch u)) 54 [bk most ss ms,vi own] (.tup [op0,vi (zbt most ss ms own)]):=by
 by_cases h1:zak most ss ms≠0\/own≠0
 .exact z5a most ss ms own hn hm h1
 .have hc:zak most ss ms=0:=Classical.byContradiction λh=>h1 (.inl h);have ho:own=0:=Classical.byContradiction λh=>h1 (.inr h);subst ho;have:=z0w (u:=u) ((za2 most ss ms).1 hc);by_cases hh:zah most ss ms=[]
  .rw [if_pos hh] at this;simpa [zbt,hc,hh] using this
  .simp [zbt,hc,hh] at h
theorem zme{most:Int}{ss:List Slip}{ms:List SumR}{own:Int}(h:zbt most ss ms own=0):Good most ss ms/\own=0/\zah most ss ms≠[]:=by
 unfold zbt at h;by_cases hc:zak most ss ms=0
 .by_cases ho:own=0
  .by_cases hh:zah most ss ms=[]
   .simp [hc,ho,hh] at h
   .exact⟨(za2 most ss ms).1 hc,ho,hh⟩
  .simp [hc,ho] at h
 .simp [hc] at h
theorem zgt{most:Int}{ss:List Slip}{ms:List SumR}{own:Int}(h:zbt most ss ms own=0):AFn (cx (zch u)) 54 [bk most ss ms,vi own] (.tup [opA most ss ms,vi 0]):=by obtain⟨hg,ho,hh⟩:=zme h;have:=z0w (u:=u) hg;rw [if_neg hh] at this;rw [ho];exact this
theorem ziu{most:Int}{ss:List Slip}{ms:List SumR}(hg:Good most ss ms){x:zd6}(h:x∈zah most ss ms):(x.1.length=6/\x.2.length=6)/\zhn (zc0 ss x):=by obtain⟨h1,h2⟩:=zna ss hg.lo x (kbw.1 h).1;exact⟨h1,zh6 ss x.1 x.2 h2 ss.length⟩
abbrev elO(most:Int)(ss:List Slip)(ms:List SumR):List (List AV):=[[vi most,.sl 7 (ss.map Slip.row),.sl 5 (ms.map SumR.row),.sl 12 (psR (zah most ss ms)),.sl 6 (amR ss (zah most ss ms))]]
abbrev d12:zd6:=([],[])
theorem ctj3{P G:Prop}(n:P)(h:Wr P->G:=by(intro n;first|((with_reducible apply kC);first|exact gB ⟨_,zgh most ss ms _ hg.nss hg.nms hkind hab,.mk rfl n.p⟩|exact gB ⟨_,zos _ _ hwl,.mk rfl n.p⟩|exact gK n.p|exact gS n.p)|exact⟨_,zgh most ss ms _ hg.nss hg.nms hkind hab,n.p⟩|exact⟨_,zos _ _ hwl,n.p⟩|exact sk n.p|exact ap n.p)):G:=h ⟨n⟩
theorem zwo{most:Int}{ss:List Slip}{ms:List SumR}(hg:Good most ss ms)(sum:Int)(i:Nat)(hi:i<(zah most ss ms).length) :
  AFn (cx (zch u)) 115 [vi i,.elt 5 (elO most ss ms) 0 0,.elt 1 [[vi sum]] 0 0] (vb (decide (sum∈zan ss ms (zc0 ss ((zah most ss ms).getD i d12))))):=by
 refine aby Tryz.func115 Tryz.ntmps115 λQ hQ=>?_
 obtain⟨x,hx⟩:∃x,(zah most ss ms)[i]?=some x:=⟨_,kaa hi⟩
 have hgx:(zah most ss ms).getD i d12=x:=by simp [hx]
 have hrow:(amR ss (zah most ss ms))[i]?=some (amL (zc0 ss x)):=by simp [hx]
 have hil:i<(amR ss (zah most ss ms)).length:=oa hi
 obtain⟨_,hab⟩:=ziu hg (kag hx)
 have hkind:∀m∈ms,0<=m.kind/\m.kind<5:=λm hm=>by have:=(hg.sum m hm).1;omega
 have hwl:(zan ss ms (zc0 ss x)).length<=100000:=by have:=zd8 ss ms (zc0 ss x);have:=hg.nms;omega
 rw [hgx] at hQ
 (repeat' (first|refine sx ?_|(refine aZ ?_;intros)|refine ctj3 ?_|fail))
 refine fe ?_
 rfl
def zwn(most:Int)(ss:List Slip)(ms:List SumR)(sum:Int)(i:Nat):Bool:=decide (sum∈zan ss ms (zc0 ss ((zah most ss ms).getD i d12)))
def zgc(ms:List SumR)(sum:Int):Int:=if decide (0<=sum/\sum<=(ms.length:Int)-1) then 0 else 6
def zge(most:Int)(ss:List Slip)(ms:List SumR)(sum:Int):Int×Int :=
 if zbt most ss ms (zgc ms sum)≠0 then (0,zbt most ss ms (zgc ms sum)) else (zpe (zcg (zwn most ss ms sum) (zah most ss ms).length) (zah most ss ms).length,0)
theorem ctj4{P G:Prop}(n:P)(h:Wr P->G:=by(intro n;first|((with_reducible apply kC);first|exact gB ⟨_,z1a _ _ _ _ hm,.mk rfl n.p⟩|exact gB ⟨_,zje _,.mk rfl n.p⟩|exact gB ⟨_,zgt hl,.mk rfl n.p⟩|exact gB ⟨_,zhr hn hm hl,.mk rfl n.p⟩|exact gB ⟨_,zvh hg _ _ _ _ _ _ (λi hi=>zwo hg sum i hi),.mk rfl n.p⟩|exact gK n.p|exact gS n.p)|exact⟨_,z1a _ _ _ _ hm,n.p⟩|exact⟨_,zje _,n.p⟩|exact⟨_,zgt hl,n.p⟩|exact⟨_,zhr hn hm hl,n.p⟩|exact⟨_,zvh hg _ _ _ _ _ _ (λi hi=>zwo hg sum i hi),n.p⟩|exact sk n.p|exact ap n.p)):G:=h ⟨n⟩
theorem etj2{G:Prop}(h:G:=by((repeat' (first|refine sx ?_|(refine aZ ?_;intros)|refine ctj4 ?_|fail));refine fe ?_;rfl)):G:=h
theorem zuj(most:Int)(ss:List Slip)(ms:List SumR)(sum:Int)(hn:ss.length<=20)(hm:ms.length<=20) :
  AFn (cx (zch u)) 44 [bk most ss ms,vi sum] (.tup [vi (zge most ss ms sum).1,vi (zge most ss ms sum).2]):=by
 refine aby Tryz.func44 Tryz.ntmps44 λQ hQ=>?_
 by_cases hl:zbt most ss ms (zgc ms sum)=0
 .obtain⟨hg,_,_⟩:=zme hl;have hF:zge most ss ms sum=(zpe (zcg (zwn most ss ms sum) (zah most ss ms).length) (zah most ss ms).length,0):=by rw [zge,if_neg (by simp [hl])]
  rw [hF] at hQ;exact etj2
 .have hF:zge most ss ms sum=(0,zbt most ss ms (zgc ms sum)):=by rw [zge,if_pos hl]
  have hdl:decide (zbt most ss ms (zgc ms sum)=0)=false:=oa hl
  rw [hF] at hQ;exact etj2
end
section
variable{G:zbf}{u:Nat->ByteArray}{E:Env}{w:World}
attribute [local irreducible] AOp AW ADr AFn ze1 AFt AOpJ
set_option maxRecDepth 20000
set_option maxHeartbeats 8000000
def zh2(f:Nat->Int):Nat->Int×Int
 | 0=>(f 0,f 0)
 | n+1=>(min (zh2 f n).1 (f n),max (zh2 f n).2 (f n))
def zzd(most:Int)(ss:List Slip)(ms:List SumR)(k a:Int)(i:Nat):Int:=zbo ss (zc0 ss ((zah most ss ms).getD i d12)) k.toNat a ss.length
def zyr(most:Int)(ss:List Slip)(ms:List SumR)(k a:Int):(Int×Int)×Int :=
 if zbt most ss ms (zc8 k a)≠0 then ((0,0),zbt most ss ms (zc8 k a)) else (zh2 (zzd most ss ms k a) (zah most ss ms).length,0)
theorem zy0{k a:Int}(h:zc8 k a=0):0<=k/\k<=4:=by
 unfold zc8 at h;split at h
 .rename_i h1;exact⟨h1.1,h1.2.1⟩
 .cases h
theorem ctk0{P G:Prop}(n:P)(h:Wr P->G:=by(intro n;first|((with_reducible apply kC);first|exact gB ⟨_,zu5 _ _,.mk rfl n.p⟩|exact gB ⟨_,zgt hl,.mk rfl n.p⟩|exact gB ⟨_,zhr hn hm hl,.mk rfl n.p⟩|exact gB ⟨_,zln most ss ms _ k a hg.nss hk hab,.mk rfl n.p⟩|exact gK n.p|exact gS n.p)|exact⟨_,zu5 _ _,n.p⟩|exact⟨_,zgt hl,n.p⟩|exact⟨_,zhr hn hm hl,n.p⟩|exact⟨_,zln most ss ms _ k a hg.nss hk hab,n.p⟩|exact sk n.p|exact ap n.p)):G:=h ⟨n⟩
theorem etk0{G:Prop}(h:G:=by((repeat' (first|refine sx ?_|(refine aZ ?_;intros)|refine ctk0 ?_|fail));refine fe ?_;rfl)):G:=h
theorem sum_a(most:Int)(ss:List Slip)(ms:List SumR)(k a:Int)(hn:ss.length<=20)(hm:ms.length<=20) :
  AFn (cx (zch u)) 14 [bk most ss ms,vi k,vi a] (.tup [.agg [vi (zyr most ss ms k a).1.1,vi (zyr most ss ms k a).1.2],vi (zyr most ss ms k a).2]):=by
 refine aby Tryz.func14 Tryz.ntmps14 λQ hQ=>?_
 by_cases hl:zbt most ss ms (zc8 k a)=0
 .obtain⟨hg,hw,hne⟩:=zme hl;have hk:=zy0 hw;have hF:zyr most ss ms k a=(zh2 (zzd most ss ms k a) (zah most ss ms).length,0):=by rw [zyr,if_neg (by simp [hl])]
  rw [hF] at hQ;have hpos:0<(zah most ss ms).length:=kbn.2 hne;have hr:(amR ss (zah most ss ms)).length=(zah most ss ms).length:=od
  have hl6:=zfd hg;have hgen:∀i,i<(zah most ss ms).length->∃x,(zah most ss ms)[i]?=some x/\(amR ss (zah most ss ms))[i]?=some (amL (zc0 ss x))/\zhn (zc0 ss x)/\zzd most ss ms k a i=zbo ss (zc0 ss x) k.toNat a ss.length:=λi hi=>by obtain⟨x,hx⟩:∃x,(zah most ss ms)[i]?=some x:=⟨_,kaa hi⟩;exact⟨x,hx,by simp [hx],(ziu hg (kag hx)).2,by simp [zzd,hx]⟩
  obtain⟨x,hx,hrow,hab,hsp⟩:=hgen 0 hpos;have hil:0<(amR ss (zah most ss ms)).length:=by rw [hr];exact hpos
  (repeat' (first|refine sx ?_|(refine aZ ?_;intros)|refine ctk0 ?_|fail));refine zam (zah most ss ms).length (λi=>[(2*1,.av (vi k)),(2*2,.av (vi a)),(2*8,.av (.ptr 8 0)),(2*8+1,.cells 92 [vi most,.sl 7 (ss.map Slip.row),.sl 5 (ms.map SumR.row),.sl 12 (psR (zah most ss ms)),.sl 6 (amR ss (zah most ss ms))]),
   (2*11,.av (.ptr 11 0)),(2*11+1,.cells 33 [vi (zh2 (zzd most ss ms k a) i).1,vi (zh2 (zzd most ss ms k a) i).2]),(2*6,.av (.ptr 6 0)),(2*6+1,.cells 33 [vi 0,vi 0]),
   (2*39,.av (.sl 6 (amR ss (zah most ss ms)))),(2*40,.av (vi ((amR ss (zah most ss ms)).length:Int))),(2*41,.av (vi i))]) ?_ ?_
  .have e0:zh2 (zzd most ss ms k a) 0=(zbo ss (zc0 ss x) k.toNat a ss.length,zbo ss (zc0 ss x) k.toNat a ss.length):=by simp only [zh2,hsp]
   rw [e0];exact si
  .intro i hi;clear hrow hab hsp hx;rcases kae i (zah most ss ms).length with hlt|hge
   .have hd:decide ((i:Int)<((amR ss (zah most ss ms)).length:Int))=true:=decide_eq_true oS;obtain⟨y,hy,hrow,hab,hsp⟩:=hgen i hlt;have hil2:i<(amR ss (zah most ss ms)).length:=by rw [hr];exact hlt
    have hi1:vi ((i+1:Nat):Int)=vi ((i:Int)+1):=od
    have es:zh2 (zzd most ss ms k a) (i+1)=(min (zh2 (zzd most ss ms k a) i).1 (zbo ss (zc0 ss y) k.toNat a ss.length),max (zh2 (zzd most ss ms k a) i).2 (zbo ss (zc0 ss y) k.toNat a ss.length)):=by simp only [zh2,hsp]
    (repeat' (first|refine sx ?_|(refine aZ ?_;intros)|refine ctk0 ?_|fail));refine⟨hlt,?_⟩;rw [es];exact si
   .have he:i=(zah most ss ms).length:=oc
    subst he;have hd:decide (((zah most ss ms).length:Int)<((amR ss (zah most ss ms)).length:Int))=false:=decide_eq_false oS;exact etk0
 .have hF:zyr most ss ms k a=((0,0),zbt most ss ms (zc8 k a)):=by rw [zyr,if_pos hl]
  have hdl:decide (zbt most ss ms (zc8 k a)=0)=false:=oa hl
  rw [hF] at hQ;exact etk0
end
end Go.Ab.J
