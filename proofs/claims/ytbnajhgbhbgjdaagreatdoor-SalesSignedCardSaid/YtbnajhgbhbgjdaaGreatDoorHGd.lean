/- For every book, all numbers and both answers SalesSigned answers true, whatever other goroutines do, and leaves its arguments as they were. Conditions: those of the given row, none else. -/
import Derived.Test.YtbnajhgbhbgjdaaGreatDoorHGc
namespace Go.Ab.J
open Go Go.Proofs Go.Kp
section
variable{G:zbf}{u:Nat->ByteArray}
attribute [local irreducible] AOp AW ADr AFn ze1 AFt AOpJ
set_option maxRecDepth 20000
set_option maxHeartbeats 8000000
theorem put_a(most:Int)(ss:List Slip)(ms:List SumR)(k:Nat)(s:Slip)(hn:ss.length<=20)(hk:k<ss.length):AFn (cx G) 63 [bk most ss ms,vi k,.agg s.row] (bk most (ss.set k s) ms):=by
 refine aby Tryz.func63 Tryz.ntmps63 λQ hQ=>?_;obtain⟨t,hs⟩:∃t,ss[k]?=some t:=⟨_,kaa hk⟩;have hrow:(ss.map Slip.row)[k]?=some t.row:=by simp [hs]
 have hil:k<(ss.map Slip.row).length:=oa hk
 have hb:(ss.map Slip.row).length<=1000000000:=by simp;omega
 have hX:(ss.map Slip.row).set k (spl t.row 0 s.row)=(ss.set k s).map Slip.row:=by rw [keg];rfl
 (repeat' (first|refine sy ?_|(refine aZ ?_;intros)|refine w0 ?_|fail));refine fe ?_;unfold bk;rw [<-hX];rfl
theorem cym1{P G:Prop}(n:P)(h:Wr P->G:=by(intro n;first|((with_reducible apply kC);first|exact gB ⟨_,hp,.mk rfl n.p⟩|exact gK n.p|exact gS n.p)|exact⟨_,hp,n.p⟩|exact sk n.p|exact ap n.p)):G:=h ⟨n⟩
theorem eym0{G:Prop}(h:G:=by((repeat' (first|refine sy ?_|(refine aZ ?_;intros)|refine cym1 ?_|fail));refine fe ?_;rfl)):G:=h
theorem ytu(most:Int)(ss:List Slip)(ms:List SumR)(k:Nat)(s:Slip)(is:Bool)(hn:ss.length<=20)(hs:ss[k]?=some s):AFn (cx G) 24 [bk most ss ms,vi k,vb is] (bk most (ss.set k (zrd is s)) ms):=by
 refine aby Tryz.func24 Tryz.ntmps24 λQ hQ=>?_;have hk:=(kab.1 hs).1;have hrow:(ss.map Slip.row)[k]?=some s.row:=by simp [hs]
 have hil:k<(ss.map Slip.row).length:=oa hk
 have hp:=put_a (G:=G) most ss ms k (zrd is s) hn hk;cases is
 .exact eym0
 .exact eym0
end
section
variable{G:zbf}{u:Nat->ByteArray}
theorem ynz(u:Nat->ByteArray):AFn (cx (zch u)) 23 [bk 0 [] [],.agg [vi 0,.val (.slice none 0 0),.val (.slice none 0 0)]] (vb true):=zsx (yi2 0 [] [] od od) λI w vs _ h=>by obtain⟨v1,vs1,rfl,h1,h2⟩:=h.inv;obtain⟨v2,vs2,rfl,h3,h4⟩:=h2.inv;exact(h4.cons (yi6 h3)).cons h1
attribute [local irreducible] AOp AW ADr AFn ze1 AFt AOpJ
set_option maxRecDepth 20000
set_option maxHeartbeats 16000000
end
def GoT(u:Nat->ByteArray)(fn:Func)(k:Nat)(Q:Exit->AS->Prop)(s:AS):Prop:=∀c,tl k fn.body=some c->AW (cx (zch u)) none fn.ntmps c Q s
theorem yqp{u:Nat->ByteArray}{fn:Func}{k N:Nat}{Q:Exit->AS->Prop}{s:AS}{c:Code}(e:tl k fn.body=some c)(hN:fn.ntmps=N)(h:AW (cx (zch u)) none N c Q s):GoT u fn k Q s:=λc' e'=>by subst hN;exact kaw (e.symm.trans e')▸h
theorem yp4{u:Nat->ByteArray}{fn:Func}{k N:Nat}{Q:Exit->AS->Prop}{s s':AS}{c:Code}(h:GoT u fn k Q s')(e:tl k fn.body=some c)(hN:fn.ntmps=N)(hs:Sub (zch u) N s s'):AW (cx (zch u)) none N c Q s:=by subst hN;exact zbx hs (h c e)
abbrev EndT(u:Nat->ByteArray)(fn:Func)(Q:Exit->AS->Prop):Prop:=∀e s,((e=.normal\/e=.ret)/\zck (cx (zch u)) s fn.results.toList=some (vb true))->Q e s
section
variable{G:zbf}{u:Nat->ByteArray}
noncomputable abbrev ytx:Func:=Tryz.f4
abbrev sN(most slip kind:Int)(is:Bool)(ss:List Slip)(ms:List SumR)(k:Nat)(most':Int)(ss':List Slip)(ms':List SumR)(l:Int):AS:=[(2*2,.av (.val (.int .u8 slip))),(2*3,.av (.val (.int .u8 kind))),(2*4,.av (vb is)),(2*5,.av (.ptr 5 0)),(2*5+1,.cells 25 [vi most,.sl 7 (ss.map Slip.row),.sl 5 (ms.map SumR.row)]),(2*12,.av (vi k)),(2*13,.av (.ptr 13 0)),(2*13+1,.cells 25 [vi most',.sl 7 (ss'.map Slip.row),.sl 5 (ms'.map SumR.row)]),(2*14,.av (vi l))]
attribute [local irreducible] AOp AW ADr AFn ze1 AFt AOpJ
attribute [local irreducible] GoT
set_option maxRecDepth 20000
set_option maxHeartbeats 16000000
section
variable{most slip kind:Int}{is:Bool}{ss SS:List Slip}{ms:List SumR}{k:Nat}{Q:Exit->AS->Prop}
theorem chs0{P G:Prop}(n:P)(h:Wr P->G:=by(intro n;first|((with_reducible apply kC);first|exact gB ⟨_,hsum,.mk rfl n.p⟩|exact gB ⟨_,hsd,.mk rfl n.p⟩|exact gB ⟨_,hmk,.mk rfl n.p⟩|exact gB ⟨_,hsm,.mk rfl n.p⟩|exact gB ⟨_,hnw,.mk rfl n.p⟩|exact gK n.p|exact gS n.p)|exact⟨_,hsum,n.p⟩|exact⟨_,hsd,n.p⟩|exact⟨_,hmk,n.p⟩|exact⟨_,hsm,n.p⟩|exact⟨_,hnw,n.p⟩|exact sk n.p|exact ap n.p)):G:=h ⟨n⟩
theorem ytw{P G:Prop}(n:P)(h:Wr P->G:=by(intro nq9;first|(with_reducible exact gED nq9.p ot))):G:=h ⟨n⟩
theorem ehs0{G:Prop}(h:G:=by((repeat' (first|refine ytw ?_|refine sy ?_|(refine aZ ?_;intros)|refine chs0 ?_|(refine s2 ?_ ?_<;>intro h7<;>try omega)));refine fe ?_;rfl)):G:=h
theorem sig11(hsum:AFn (cx (zch u)) 7 [] (vb true))(hsd:AFn (cx (zch u)) 25 [bk most SS ms,vi k] (.tup [vi (if is then 1 else 2),vi 0]))(hmk:AFn (cx (zch u)) 24 [bk most ss ms,vi k,vb is] (bk most SS ms))(hsm:AFn (cx (zch u)) 23 [bk most SS ms,bk most SS ms] (vb true))
  (hnw:AFn (cx (zch u)) 26 [bk most ss ms,bk most SS ms,.val (.int .u8 slip),.val (.int .u8 kind)] (vb true)) (hQ:EndT u ytx Q):GoT u ytx 11 Q (sN most slip kind is ss ms k most SS ms 0):=by
 have q9:decide ((0:Int)=0)=true:=rfl
 have q1:decide ((1:Int)=1)=true:=rfl
 have q2:decide ((2:Int)=2)=true:=rfl
 have q3:decide ((1:Int)=2)=false:=rfl
 have q4:decide ((2:Int)=1)=false:=rfl
 refine yqp rfl Tryz.ntmps4 ?_
 cases is
 .simp only [kbd,if_false] at hsd;exact ehs0
 .simp only [if_true] at hsd;exact ehs0
theorem chs1{P G:Prop}(n:P)(h:Wr P->G:=by(intro n;first|((with_reducible apply kC);first|exact gB ⟨_,hsum,.mk rfl n.p⟩|exact gB ⟨_,hs0,.mk rfl n.p⟩|exact gK n.p|exact gS n.p)|exact⟨_,hsum,n.p⟩|exact⟨_,hs0,n.p⟩|exact sk n.p|exact ap n.p)):G:=h ⟨n⟩
theorem sig9{n m j:Int}{most' l:Int}{ss':List Slip}{ms':List SumR}(hsum:AFn (cx (zch u)) 7 [] (vb true))(hm0:0<=m)(hj0:0<=j)(hn:n=m+j)(hb:m<1000000000/\j<1000000000)
  (hZ:m=0->l=9/\AFn (cx (zch u)) 23 [bk most' ss' ms',.agg [vi 0,.val (.slice none 0 0),.val (.slice none 0 0)]] (vb true)) (hP:m≠0->GoT u ytx 11 Q (sN most slip kind is ss ms k most' ss' ms' l)) (hQ:EndT u ytx Q) :
  GoT u ytx 9 Q (sN most slip kind is ss ms k most' ss' ms' l++[(2*15,.av (vi n)),(2*16,.av (vi 0)),(2*17,.av (vi m)),(2*18,.av (vi 0)),(2*19,.av (vi j)),(2*20,.av (vi 0))]):=by
 have q0:(!decide ((0:Int)=0))=false:=rfl
 have d1:decide (m<0)=false:=decide_eq_false oc
 have d2:decide (j<0)=false:=decide_eq_false oc
 have d3:(!decide (n=m+j))=false:=by rw [decide_eq_true hn];rfl
 have hb1:=hb.1
 have hb2:=hb.2
 refine yqp rfl Tryz.ntmps4 ?_
 by_cases h0:m=0
 .have d4:decide (m=0)=true:=decide_eq_true h0;obtain⟨rfl,hs0⟩:=hZ h0;have q9:decide ((9:Int)=9)=true:=rfl;(repeat' (first|refine ytw ?_|exact yp4 h11 rfl Tryz.ntmps4 oT |refine sy ?_|(refine aZ ?_;intros)|refine chs1 ?_|(refine s2 ?_ ?_<;>intro h7<;>try omega)));refine fe ?_;rfl
 .have d4:decide (m=0)=false:=decide_eq_false h0;have h11:=hP h0;(repeat' (first|refine ytw ?_|exact yp4 h11 rfl Tryz.ntmps4 oT |refine sy ?_|(refine aZ ?_;intros)|refine chs1 ?_|(refine s2 ?_ ?_<;>intro h7<;>try omega)))
theorem chs2{P G:Prop}(n:P)(h:Wr P->G:=by(intro n;first|((with_reducible apply kC);first|exact gB ⟨_,hh0,.mk rfl n.p⟩|exact gB ⟨_,hh1,.mk rfl n.p⟩|exact gB ⟨_,hh2,.mk rfl n.p⟩|exact gB ⟨_,hm1,.mk rfl n.p⟩|exact gB ⟨_,hm2,.mk rfl n.p⟩|exact gK n.p|exact gS n.p)|exact⟨_,hh0,n.p⟩|exact⟨_,hh1,n.p⟩|exact⟨_,hh2,n.p⟩|exact⟨_,hm1,n.p⟩|exact⟨_,hm2,n.p⟩|exact sk n.p|exact ap n.p)):G:=h ⟨n⟩
theorem sig6{n m j:Int}{most' l:Int}{ss' S1 S2:List Slip}{ms':List SumR}(hh0:AFn (cx (zch u)) 10 [bk most ss ms] (.tup [vi n,vi 0]))(hh1:AFn (cx (zch u)) 10 [bk most S1 ms] (.tup [vi m,vi 0]))(hh2:AFn (cx (zch u)) 10 [bk most S2 ms] (.tup [vi j,vi 0]))
  (hm1:AFn (cx (zch u)) 24 [bk most ss ms,vi k,vb is] (bk most S1 ms)) (hm2:AFn (cx (zch u)) 24 [bk most ss ms,vi k,vb (!is)] (bk most S2 ms))
  (h9:GoT u ytx 9 Q (sN most slip kind is ss ms k most' ss' ms' l++[(2*15,.av (vi n)),(2*16,.av (vi 0)),(2*17,.av (vi m)),(2*18,.av (vi 0)),(2*19,.av (vi j)),(2*20,.av (vi 0))])) :
  GoT u ytx 6 Q (sN most slip kind is ss ms k most' ss' ms' l):=by
 refine yqp rfl Tryz.ntmps4 ?_
 (repeat' (first|refine ytw ?_|exact yp4 h9 rfl Tryz.ntmps4 oT |refine sy ?_|(refine aZ ?_;intros)|refine chs2 ?_|(refine s2 ?_ ?_<;>intro h7<;>try omega)))
end
theorem chs3{P G:Prop}(n:P)(h:Wr P->G:=by(intro n;first|((with_reducible apply kC);first|exact gB ⟨_,fit_a _ _ _,.mk rfl n.p⟩|exact gB ⟨_,hsum,.mk rfl n.p⟩|exact gB ⟨_,hfx,.mk rfl n.p⟩|exact gB ⟨_,hsg,.mk rfl n.p⟩|exact gB ⟨_,hs0,.mk rfl n.p⟩|exact gK n.p|exact gS n.p)|exact⟨_,fit_a _ _ _,n.p⟩|exact⟨_,hsum,n.p⟩|exact⟨_,hfx,n.p⟩|exact⟨_,hsg,n.p⟩|exact⟨_,hs0,n.p⟩|exact sk n.p|exact ap n.p)):G:=h ⟨n⟩
theorem ehs1{G:Prop}(h:G:=by((repeat' (first|refine ytw ?_|exact yp4 h6 rfl Tryz.ntmps4 oT |refine sy ?_|(refine aZ ?_;intros)|refine chs3 ?_|(refine s2 ?_ ?_<;>intro h7<;>try omega)));refine fe ?_;rfl)):G:=h
theorem yts(u:Nat->ByteArray)(hsum:AFn (cx (zch u)) 7 [] (vb true))(most:Int)(ss:List Slip)(ms:List SumR)(which slip kind:Int)(is:Bool)(hN:ss.length<=3000000000000)(hw0:0<=which)(hw1:which<256)(hz0:0<=slip)(hs1:slip<256)(hk0:0<=kind)(hk1:kind<256) :
  Top (cx (zch u)) 4 [bk most ss ms,.val (.int .u8 which),.val (.int .u8 slip),.val (.int .u8 kind),vb is] (vb true):=by
 refine top_by Tryz.func4 ot rfl Tryz.ntmps4 rfl rfl ?_ rfl
 refine zab λQ hQ=>?_
 have hfx:=yto (G:=zch u) most ss ms hN
 have hlf:((il (zae ss ss.length)).length:Int)=((zae ss ss.length).length:Int):=od
 by_cases hfit:(ss.length<=20/\ms.length<=20)/\zak most ss ms=0
 case neg =>have hd1:decide ((ss.length<=20/\ms.length<=20)/\zak most ss ms=0)=false:=decide_eq_false hfit;exact ehs1
 have hd1:decide ((ss.length<=20/\ms.length<=20)/\zak most ss ms=0)=true:=decide_eq_true hfit
 obtain⟨⟨hn,hm⟩,hc⟩:=hfit
 have hg:=(za2 most ss ms).1 hc
 by_cases hne:(zae ss ss.length).length=0
 .have hd2:decide (((il (zae ss ss.length)).length:Int)=0)=true:=decide_eq_true oc;exact ehs1
 have hd2:decide (((il (zae ss ss.length)).length:Int)=0)=false:=decide_eq_false oc
 have hr:0<=which % ((il (zae ss ss.length)).length:Int)/\which % ((il (zae ss ss.length)).length:Int)<((il (zae ss ss.length)).length:Int):=⟨Int.emod_nonneg _ oc,Int.emod_lt_of_pos _ oc⟩
 obtain⟨j,hj⟩:∃j:Nat,which % ((il (zae ss ss.length)).length:Int)=(j:Int):=⟨(which % ((il (zae ss ss.length)).length:Int)).toNat,oc⟩
 have hmod:0<=which/\0<((il (zae ss ss.length)).length:Int):=⟨hw0,oc⟩
 have hjl:j<(zae ss ss.length).length:=oc
 have lj:j<(il (zae ss ss.length)).length:=oa hjl
 obtain⟨x,hx⟩:∃x,(zae ss ss.length)[j]?=some x:=⟨_,kaa hjl⟩
 have hbd:=z1u ss ss.length _ (kag hx)
 obtain⟨k,rfl⟩:∃k:Nat,x=(k:Int):=⟨x.toNat,oc⟩
 have vj:(il (zae ss ss.length))[j]?=some [vi k]:=zcm hx
 have hkl:k<ss.length:=oc
 obtain⟨s,hs⟩:∃s,ss[k]?=some s:=⟨_,kaa hkl⟩
 have hgd:ss.getD k d7=s:=by simp [hs]
 have hf:s.kind=5:=by
  have hm2:=kag hx;simp only [zae,kav,kbw] at hm2;obtain⟨i,⟨_,hi⟩,e⟩:=hm2;obtain rfl:i=k:=oc
  have:(ss.getD i d7).kind=5:=oa hi
  rwa [hgd] at this
 have hfxk:zmj ss (k:Int)=true:=by simp [zmj,hs,hf];omega
 have hrow:(ss.map Slip.row)[k]?=some s.row:=by simp [hs]
 have hil:k<(ss.map Slip.row).length:=oa hkl
 have hsg:=z9o (u:=u) most ss ms (k:Int) is hn hm
 have hs0:=ynz u
 by_cases h0:s.signed=0
 case neg =>
  have hd0:(!decide (s.signed=0))=true:=by rw [decide_eq_false h0];rfl
  have hL:zkp most ss ms k is=5:=by simp [zkp,zh5,hc,hfxk,hs,h0]
  have hV:zil most ss ms k is=bk 0 [] []:=by rw [zil,if_neg (by rw [hL];decide)]
  rw [hL,hV] at hsg;have q5:decide ((5:Int)=5)=true:=rfl;exact ehs1
 have hd0:(!decide (s.signed=0))=false:=by rw [decide_eq_true h0];rfl
 have hO:zh5 most ss ms k=0:=by simp [zh5,hc,hfxk,hs,h0]
 have hS:zrc ss k is=ss.set k (zrd is s):=by rw [zrc,kb9,hgd]
 have hL:zkp most ss ms k is=zbt most (ss.set k (zrd is s)) ms 0:=by rw [zkp,if_neg (by simp [hO]),hS]
 have good2:∀b,Good most (ss.set k (zrd b s)) ms:=λb=>yn5 hg hs (ytd h0 b) (by have ho:=(hg.slip k s hs).amt;simp only [zrd];omega) (by cases b<;>simp [zrd]) λh=>absurd hf h
 have n2:∀b,(ss.set k (zrd b s)).length<=20:=λb=>oa hn
 have hN2:∀b,zr3 most (ss.set k (zrd b s)) ms=(((zah most (ss.set k (zrd b s)) ms).length:Int),0):=λb=>by simp [zr3,(za2 _ _ _).2 (good2 b)]
 have hhb:∀b,AFn (cx (zch u)) 10 [bk most (ss.set k (zrd b s)) ms] (.tup [vi ((zah most (ss.set k (zrd b s)) ms).length:Int),vi 0]):=λb=>by have:=zkg (u:=u) most (ss.set k (zrd b s)) ms (n2 b) hm;rwa [hN2 b] at this
 have hh0:AFn (cx (zch u)) 10 [bk most ss ms] (.tup [vi ((zah most ss ms).length:Int),vi 0]):=by have:=zkg (u:=u) most ss ms hn hm;rwa [show zr3 most ss ms=(((zah most ss ms).length:Int),0) by simp [zr3,hc]] at this
 have mk:∀b,AFn (cx (zch u)) 24 [bk most ss ms,vi k,vb b] (bk most (ss.set k (zrd b s)) ms):=λb=>ytu (G:=zch u) most ss ms k s b hn hs
 have hsp:=ytn hs hf h0 most ms
 have hsum2:((zah most ss ms).length:Int)=((zah most (ss.set k (zrd is s)) ms).length:Int)+((zah most (ss.set k (zrd (!is) s)) ms).length:Int):=by cases is<;>simp only [Bool.not_false,Bool.not_true]<;>omega
 have hbnd:∀b,((zah most (ss.set k (zrd b s)) ms).length:Int)<1000000000:=λb=>by have:=zfd (good2 b);omega
 have l1:(zah most (ss.set k (zrd is s)) ms).length≠0->zbt most ss ms 0=0:=λh=>by rw [look_if hg,if_neg oc]
 have l2:(zah most (ss.set k (zrd is s)) ms).length≠0->zbt most (ss.set k (zrd is s)) ms 0=0:=λh=>by rw [look_if (good2 is),if_neg h]
 have l3:(zah most (ss.set k (zrd is s)) ms).length=0->zbt most (ss.set k (zrd is s)) ms 0=9:=λh=>by rw [look_if (good2 is),if_pos h]
 by_cases hH:(zah most (ss.set k (zrd is s)) ms).length=0
 .have hV:zil most ss ms k is=bk 0 [] []:=by rw [zil,hL,if_neg (by rw [l3 hH];decide)]
  rw [hL,hV,l3 hH] at hsg;have h9:=sig9 (u:=u) (most:=most) (slip:=slip) (kind:=kind) (is:=is) (ss:=ss) (ms:=ms) (k:=k) (most':=0) (ss':=[]) (ms':=[]) (l:=9) hsum oc oc hsum2 ⟨hbnd is,hbnd (!is)⟩ (λ_=>⟨rfl,hs0⟩) (λh=>absurd hH oc) hQ;have h6:=sig6 hh0 (hhb is) (hhb (!is)) (mk is) (mk (!is)) h9;clear h9
  (repeat' (first|refine ytw ?_|exact yp4 h6 rfl Tryz.ntmps4 oT |refine sy ?_|(refine aZ ?_;intros)|refine chs3 ?_|(refine s2 ?_ ?_<;>intro h7<;>try omega)))
 .have hV:zil most ss ms k is=bk most (ss.set k (zrd is s)) ms:=by rw [zil,hL,if_pos (l2 hH),hS]
  rw [hL,hV,l2 hH] at hsg;have h6s:=(good2 is).nss;have hk6:k<6:=by have:=hg.nss;omega
  have hsd:=z4j (u:=u) most (ss.set k (zrd is s)) ms (k:Int) (n2 is) hm;rw [yti (s:=zrd is s) (is:=is) hk6 (kc5 hkl) hf rfl (l2 hH)] at hsd;have hsm:=yi2 (G:=zch u) most (ss.set k (zrd is s)) ms (n2 is) hm;have hnw:=ymy (u:=u) hz0 hs1 hk0 hk1 hn hm (n2 is) hm (ylu od (yk5 hs (ytd h0 is)) hz0 hk0 (l1 hH) (l2 hH))
  have h11:=sig11 (u:=u) (most:=most) (slip:=slip) (kind:=kind) (is:=is) (ss:=ss) (ms:=ms) (k:=k) hsum hsd (mk is) hsm hnw hQ;have h9:=sig9 (u:=u) (most:=most) (slip:=slip) (kind:=kind) (is:=is) (ss:=ss) (ms:=ms) (k:=k) (l:=0) hsum oc oc hsum2 ⟨hbnd is,hbnd (!is)⟩ (λh=>absurd h oc) (λ_=>h11) hQ;have h6:=sig6 hh0 (hhb is) (hhb (!is)) (mk is) (mk (!is)) h9;clear h9 h11
  (repeat' (first|refine ytw ?_|exact yp4 h6 rfl Tryz.ntmps4 oT |refine sy ?_|(refine aZ ?_;intros)|refine chs3 ?_|(refine s2 ?_ ?_<;>intro h7<;>try omega)))
end
end Go.Ab.J
namespace Go.Proofs.YtbnajhgbhbgjdaaGreatDoor
open Go Go.Ab Go.Ab.J
theorem salesSigned_holds:Rows.SalesSignedCardSaid:=ybe λu most ss ms a1 a2 a3 b h0 h1 h2 h3 h4 h5 h6=>yts u summed_a most ss ms a1 a2 a3 b h0 h1 h2 h3 h4 h5 h6
end Go.Proofs.YtbnajhgbhbgjdaaGreatDoor
