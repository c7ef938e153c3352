/- What all laws about sales rest on, beside any goroutines. Conditions: none. -/
import Derived.Test.YtfgciihkmemdlaaGreatDoorZe
namespace Go.Kp
open Go Go.Conc Go.ConcM Go.Proofs
section
variable{p:Par}{hst:yp0 p}{i:Nat}{S:zkv p Tryz.prog i}
set_option maxHeartbeats 8000000 in
theorem lsD{s:PSt}{w:World}(hi:0<i)(hr:s.τ.r=.out)(hk:1<=s.τ.k)(hd:s.τ.d=1)(hz:s.τ.z=0)(hh:s.τ.hd=false)(hcap:8*(p.cap-p.b)+8<2147483632){wd:Wd}{aw sv:Bool}{ws:Int}{it:Nat}{n1':Nat×Nat}{Q:Exit->PSt->Go.Act->World->Prop}{F6:Nat->Value}{n2:Nat×Nat}{w7:World}{v5:Int}(hN:∀s' a' w',yft p s w n1'.1 it s' a' w'->Q .normal s' a' w')(hB:∀s' a' w',Took p s w s' a' w'->Q (.exit 0) s' a' w')(hdec:n2.1<n1'.1)(e5:bits .and .i32 (wd.word:Int) 5=v5)(hv5:¬v5=0)(r6:Lr p F6 wd aw sv ws it)(hs7:zay (λx=>s.O x\/p.ro x) w w7) :
  PtW p hst i S [1,1,1,1,1,1,1,3] Q ⟨n2,{ s.τ with r:=.queued,k:=s.τ.k-1 },s.O⟩ ⟨tab 139 F6,[]⟩ w7:=by
 obtain⟨f0,f2,f3,f4,f5,f6⟩:=r6
 refine yfr rfl ?_
 refine zaf (zaf ?_)
 refine qi ?_
 refine cf ?_
 refine zap ?_
 refine qh ?_
 refine zad ?_
 refine zfr (λs' a' w'=>∃F ws',a'=⟨tab 139 F,[]⟩/\Lr p F wd aw sv ws' it/\s'=⟨n2,{ s.τ with r:=.queued,k:=s.τ.k-1 },s.O⟩/\zay (λx=>s.O x\/p.ro x) w w') ?_ ?_
 .refine zaf ?_;by_cases hws:ws=0
  .refine rg ?_;refine pu ?_;refine qj ?_;refine rg ?_;refine ycd (lv hi oC) λb k cs hb hk w1 hs=>⟨_,w1.later,stepG_nanotime rfl og hk rfl yfl.f yfl.name yfl.body yfl.next yfl.find og,rfl,rfl,rfl,⟨w1.tick,rfl⟩,?_⟩;refine qm ?_
   exact⟨_,_,rfl,⟨by simp [f0],(by simp;rfl),by simp [f3],by simp [f4],by simp [f5],by simp [f6]⟩,rfl,(hs7.trans hs).trans ⟨rfl,rfl,⟨w1.tick,rfl⟩,kac _,λ_ _ _=>rfl⟩⟩
  .refine rg ?_;refine pu ?_;refine qg ?_;exact zap ⟨_,ws,rfl,⟨by simp [f0],by simp [f2],by simp [f3],by simp [f4],by simp [f5],by simp [f6]⟩,rfl,hs7⟩
 clear f0 f2 f3 f4 f5 f6
 rintro _ _ w8 ⟨F8,ws8,rfl,⟨f0,f2,f3,f4,f5,f6⟩,rfl,hs8⟩
 refine qh ?_
 refine pu ?_
 refine z95 (s:=⟨n2,{ s.τ with r:=.queued,k:=s.τ.k-1 },s.O⟩) ⟨hi,hz,hh,by show 0<s.τ.d;rw [hd];exact kca,hcap⟩ rfl rfl og rfl yfm.f yfm.name yfm.body yfm.next yfm.find (by simp [Act.eval,msA,muA, *]) λn9 w9 l9 s9=>zad ?_
 refine nm ?_
 have hs9:=hs8.trans s9
 refine zfr (λs' a' w'=>∃F sv',a'=⟨tab 139 F,[]⟩/\Lr p F wd aw sv' ws8 it/\s'=⟨n9,{ s.τ with r:=.woke,k:=s.τ.k-1 },s.O⟩/\zay (λx=>s.O x\/p.ro x) w w') ?_ ?_
 .cases sv with
  | true =>refine qd ?_;refine qf ?_;refine uw ?_;refine pu ?_;refine qb ?_;exact⟨_,true,rfl,⟨by simp [f0],by simp [f2],od,by simp [f4],by simp [f5],by simp [f6]⟩,rfl,hs9⟩
  | false =>
    refine qd ?_;refine pu ?_;refine ycd (lv hi oC) λb k cs hb hk w1 hs=>⟨_,w1.later,stepG_nanotime rfl oP hk rfl yfl.f yfl.name yfl.body yfl.next yfl.find og,rfl,rfl,rfl,⟨w1.tick,rfl⟩,?_⟩;refine nm ?_;refine pg ?_;refine qk ?_;refine qb ?_
    exact⟨_,_,rfl,⟨by simp [f0],by simp [f2],(by simp;rfl),by simp [f4],by simp [f5],by simp [f6]⟩,rfl,(hs9.trans hs).trans ⟨rfl,rfl,⟨w1.tick,rfl⟩,kac _,λ_ _ _=>rfl⟩⟩
 clear f0 f2 f3 f4 f5 f6
 rintro _ _ w10 ⟨F10,sv10,rfl,r10,rfl,hs10⟩
 exact lsE hi hr hk hd hz hh hcap hN hB (kcv l9.1 hdec) r10 hs10 _ rfl
set_option maxHeartbeats 8000000 in
theorem lsC{s:PSt}{w:World}(hi:0<i)(hr:s.τ.r=.out)(hk:1<=s.τ.k)(hd:s.τ.d=1)(hz:s.τ.z=0)(hh:s.τ.hd=false)(hcap:8*(p.cap-p.b)+8<2147483632){wd:Wd}{aw sv:Bool}{ws:Int}{it:Nat}{n1':Nat×Nat}{Q:Exit->PSt->Go.Act->World->Prop}{F6:Nat->Value}{W4:Wd}{w6:World}(hN:∀s' a' w',yft p s w n1'.1 it s' a' w'->Q .normal s' a' w')(hB:∀s' a' w',Took p s w s' a' w'->Q (.exit 0) s' a' w')(hit:it<=4)(hlt:wd.word<2147483632)(hn:n1'.2=wd.word)(hawh:Hid (aw=true->wd.W=true/\wd.S=false))(hsvh:Hid (sv=true->aw=true))(r6:Lr p F6 wd aw sv ws it)(f7:F6 7=.int .i32 (W4.word:Int))(hw4:Hid (W4.word=(⟨if wd.S then wd.L else true,if aw then false else wd.W,wd.S||(sv&&wd.L),if wd.L||wd.S then wd.c+1 else wd.c,0⟩:Wd).word))(hs6:zay (λx=>s.O x\/p.ro x) w w6) :
  PtW p hst i S [1,1,1,1,1,1] Q ⟨n1',z34 s aw,s.O⟩ ⟨tab 139 F6,[]⟩ w6:=by
 have at1:∀(n:Nat×Nat) (aw:Bool),z69 p i ⟨n,z34 s aw,s.O⟩:=λn aw=>yet hi hz hd hh hcap n aw
 obtain⟨f0,f2,f3,f4,f5,f6⟩:=r6
 refine yfr rfl ?_
 refine qh ?_
 refine qo ?_
 refine zpn (s:=⟨n1',z34 s aw,s.O⟩) (at1 n1' aw) rfl og rfl zcw.f zcw.name zcw.body zcw.next zcw.find wd.word W4.word oh oh oh (λwd2 n hL2 hn2 he2=>?_) (λn2 w7 l2 hm s7=>?_)
 .by_cases hfree:wd.L=false/\wd.S=false
  .obtain⟨k1,k2,k3,k4⟩:=Wd.eq_of_word he2;obtain⟨L,W,S,c,T⟩:=wd2;simp only at k1 k2 k3 k4;rw [hfree.1] at k1;rw [hfree.2] at k3;subst k1 k3;have e5:bits .and .i32 (wd.word:Int) 5=0:=by rw [yfo wd oc,hfree.1,hfree.2];rfl
   have mv:zc9 (z34 s aw).r .owner ⟨false,W,false,c,T⟩ ⟨true,if aw then false else W,false,c,T⟩:=by
    cases aw with
    | false=>rw [show(z34 s false).r=.out from hr];exact .takeOut W c T
    | true=>exact .takeSpin W c T
   refine⟨.owner,s.τ.k-1,_,mv,?_,?_,rfl,λn2 w7 l2 _ s7=>?_⟩
   .cases aw with
    | false=>rw [show(z34 s false).r=.out from hr];show s.τ.k-1+1=s.τ.k;omega
    | true=>rfl
   .rw [hw4.out];simp only [Wd.word,hfree.1,hfree.2];rw [<-k4,<-k2];simp
   clear hfree mv hL2 hn2 he2 k2 k4;refine nm ?_;refine zad ?_;refine ct ?_;refine zaf (zaf ?_);refine qi ?_;refine ct ?_;refine zih (hB _ _ _ ⟨_,rfl,by simp [f0],?_,rfl,hs6.trans s7⟩);cases aw<;>rfl
  .obtain⟨k1,k2,k3,k4⟩:=Wd.eq_of_word he2;obtain⟨v5,e5,hv5⟩:∃v:Int,bits .and .i32 (wd.word:Int) 5=v/\¬v=0:=⟨_,yfo wd oc,by cases h1:wd.L<;>cases h2:wd.S<;>simp [h1,h2] at hfree |-⟩;have hLS:(wd.L||wd.S)=true:=by cases h1:wd.L<;>cases h2:wd.S<;>simp [h1,h2] at hfree |-
   have hne:Hid (wd.word≠W4.word):=⟨by rw [hw4.out];simp only [Wd.word,hLS,if_true];cases wd.S<;>cases wd.L<;>cases wd.W<;>cases aw<;>cases sv<;>simp<;>omega⟩;have mv:∃wd',zc9 (z34 s aw).r .queued wd2 wd'/\wd'.word=W4.word/\wd'.T=wd2.T:=by
    obtain⟨L,W,S,c,T⟩:=wd2;simp only at k1 k2 k3 k4;cases aw with
    | false =>
      have hsvf:sv=false:=by cases sv with|false=>rfl|true=>exact absurd (hsvh.out rfl) od
      subst hsvf;refine⟨⟨L,W,S,c+1,T⟩,?_,?_,rfl⟩
      .rw [show(z34 s false).r=.out from hr];exact .queueOut L W S c T (by rw [k1,k3];simpa using hLS)
      .rw [hw4.out];simp only [Wd.word,<-k1,<-k2,<-k3,<-k4];cases L<;>cases S<;>simp_all
    | true =>
      obtain⟨a1,a2⟩:=hawh.out rfl;have hLt:wd.L=true:=by rw [a2] at hLS;simpa using hLS
      rw [hLt] at k1;rw [a2] at k3;subst k1 k3;refine⟨⟨true,false,sv,c+1,T⟩,.queueSpin W sv c T,?_,rfl⟩;rw [hw4.out];simp only [Wd.word,hLt,a2,<-k4];simp
   obtain⟨wd',mv,hw',hT'⟩:=mv;refine⟨.queued,s.τ.k-1,wd',mv,?_,hw',hT',λn2 w7 l2 hdec s7=>?_⟩
   .cases aw with
    | false=>rw [show(z34 s false).r=.out from hr];show s.τ.k-1+1=s.τ.k;omega
    | true=>rfl
   have hdec':Hid (n2.1<n1'.1):=⟨hdec hne.out⟩;have hτq:({ z34 s aw with r:=.queued,k:=s.τ.k-1 }:Thr)={ s.τ with r:=.queued,k:=s.τ.k-1 }:=by cases aw<;>rfl
   simp only [hτq];have hs7:=hs6.trans s7;clear hfree mv hL2 hn2 he2 k1 k2 k3 k4 hLS hw' hT' hdec hτq hawh hsvh;refine nm ?_;refine zad ?_;refine ct ?_;exact lsD (wd:=wd) (aw:=aw) (sv:=sv) (ws:=ws) (it:=it) hi hr hk hd hz hh hcap hN hB hdec'.out e5 hv5 ⟨by simp [f0],by simp [f2],by simp [f3],by simp [f4],by simp [f5],by simp [f6]⟩ hs7 _ rfl
 .refine nm ?_;refine zad ?_;refine cf ?_;refine qa ?_;refine z0k (s:=⟨n2,z34 s aw,s.O⟩) (at1 n2 aw) rfl og ?_ (λwd4 n4 hL4 hn4 hlt4=>⟨(z34 s aw).r,.inl rfl,λn5 w5 l5 h5 s5=>?_⟩)
  ·(intro wq st sm hMu;have hc:=hMu.cellSt;refine⟨run_eq_of λK hK=>ou,?_⟩;unfold listed;simp [go_sem, *];exact znz ycc _ _)
  refine qm ?_;refine hN _ _ _ ⟨(n5.1,4-it),.left _ _ (kcv l5.1 (hm hn)),wd4,aw,sv,ws,it,_,rfl,rfl,⟨by simp [f0],by simp [f2],by simp [f3],by simp [f4],by simp [f5],od⟩,hit,hlt4,h5,rfl,λh=>?_,hsvh.out,rfl,(hs6.trans s7).trans s5⟩;subst h;exact hL4.spin hn4
end
section
variable{p:Par}{hst:yp0 p}{S:zkv p Tryz.prog 0}
theorem z9f(v:Nat)(h:v<2147483648):IntKind.u64.wrap ((v:Int)*4294967296+1)=(v:Int)*4294967296+1:=by rw [IntKind.wrap_u64];omega
structure WtI(p:Par)(s:PSt)(w:World)(x:Nat)(s':PSt)(a':Go.Act)(w':World)(F:Nat->Value):Prop where
 n:x=s'.n.1
 τ:s'.τ={ s.τ with d:=1 }
 O:s'.O=s.O
 sees:zay (λx=>s.O x\/p.ro x) w w'
 a:a'=⟨tab 84 F,[]⟩
 f0:F 0=.pointer (some (wgA p.Wg))
set_option maxHeartbeats 4000000 in
theorem z9c(s:PSt)(w:World)(hz:s.τ.z=0)(hs:s.τ.s=0)(ha:s.τ.a=0)(hd:s.τ.d=0)(hcap:8*(p.cap-p.b)+8<2147483632) :
  zbv (jdg p hst Tryz.prog 0 S) 71 #[.pointer (some (wgA p.Wg))] s w (λs' _ w'=>s'.τ={ s.τ with s:=3 }/\s'.O=s.O/\zay (λx=>s.O x\/p.ro x) w w'):=by
 refine zaz Tryz.func71 og rfl 84 og od λF hF'=>?_
 have h0:F 0=.pointer (some (wgA p.Wg)):=hF' 0 _ rfl
 clear hF'
 have hlv:zar 0 s:=lv0 hz oc
 refine zaf (zdm (t:=true) rfl ?_)
 simp only [if_true]
 refine rg ?_
 refine zcy hlv .disable (.inl rfl) rfl og rfl ze2.f ze2.name ze2.body ze2.next ze2.find 1 (by rw [hd];rfl) λn1 w1 l1 s1=>zad ?_
 refine nm ?_
 refine zbq (zfs kbu (λx s' a' w'=>∃F,WtI p s w x s' a' w' F) n1.1 ⟨_,rfl,rfl,rfl,s1,rfl,by simp [h0]⟩ ?_)
 clear h0 s1 l1 hlv
 rintro x ⟨n2,τ2,O2⟩ _ w2 ⟨F2,hx,hτ,hO,s2,rfl,h0⟩
 simp only at hx hτ hO
 subst hx hτ hO
 have hzz:({ s.τ with d:=1 }:Thr).z=0:=hz
 have hss:({ s.τ with d:=1 }:Thr).s=0:=hs
 have haa:({ s.τ with d:=1 }:Thr).a=0:=ha
 refine zbq (zaf ?_)
 refine qa ?_
 refine za4 rfl og rfl (vs:=#[.pointer (some (wgA p.Wg))]) oh (z85 _ _ hzz hss haa) λs4 v4 w4 hp=>?_
 obtain⟨n4,τ4,O4⟩:=s4
 obtain⟨l4,e2,sees4,v,rfl,hv,hc⟩:=hp
 simp only at l4 e2 hc
 subst e2
 refine qm ?_
 have hvb:v<2147483648:=oc
 have a1:=ConcN.st_flag v 0 hvb oe
 have a2:=ConcN.st_waiters v 0 hvb oe
 have a3:((v:Int)*4294967296+((0:Nat):Int)) / 4294967296=(v:Int):=oc
 have a4:=zb5 (v:Int) oc oc
 have a5:=z9f v hvb
 have a6:IntKind.u32.wrap 0=0:=rfl
 have sees5:=Hid.mk (s2.trans sees4)
 have hc':=Hid.mk hc
 have l4':=Hid.mk l4
 have hvb':=Hid.mk hvb
 have hz':=Hid.mk hz
 have hs':=Hid.mk hs
 have ha':=Hid.mk ha
 have hd':=Hid.mk hd
 have hcap':=Hid.mk hcap
 clear s2 sees4 hc l4 hzz hss haa hvb hv hz hs ha hd hcap
 simp only [kcr,kd2] at a1 a2 a3
 simp only [wgv,kcr,kd2]
 refine qh ?_
 refine qb ?_
 refine qh ?_
 refine qb ?_
 refine zfr (λs' a' w'=>s'=⟨n4,τ4,s.O⟩/\zay (λx=>s.O x\/p.ro x) w w'/\∃F,a'=⟨tab 84 F,[]⟩/\F 0=.pointer (some (wgA p.Wg))/\F 2=.int .u64 ((v:Int)*4294967296)/\F 4=.int .u32 0/\0<v/\τ4={ s.τ with d:=1 }/\n4.2=v*4294967296) ?_ ?_
 .refine zaf ?_;by_cases e:v=0
  .subst e;have hτ:τ4={ s.τ with d:=1,s:=2 }:=by
     rcases hc'.out with ⟨_,h⟩|⟨h,_⟩
     .exact h
     .exact absurd h (kdz _)
   subst hτ;have hlv:zar 0 (⟨n4,{ s.τ with d:=1,s:=2 },s.O⟩:PSt):=lv0 hz'.out (show(2:Nat)<3 by decide);refine qd ?_;refine qj ?_;refine zaf (zdm (t:=true) rfl ?_);simp only [if_true];refine qn ?_;refine zcy hlv .enable (.inr rfl) rfl og rfl zlq.f zlq.name zlq.body zlq.next zlq.find 0 rfl λn6 w6 l6 s6=>zad ?_;refine nm ?_;have hlv2:=hlv;clear hlv
   have hlv:zar 0 (⟨n6,{ s.τ with d:=0,s:=2 },s.O⟩:PSt):=lv0 hz'.out (show(2:Nat)<3 by decide);refine qd ?_;(co_applyP zdf ?hl1 (.pointer (some (wgA p.Wg))) rfl og ?hr1 ?h1;(case hl1=>exact hlv);(case hr1=>(intro w1 st sm st' sm' _ hWg;have hc:=(ze4 hWg).1;have hu:=zy4 hc;exact⟨run_eq_of λK hK=>ou,listed_nil (by simp [go_sem,zlu hc, *])⟩));refine nm ?_)
   intro n7 w7 l7 s7;refine zrw rfl og rfl zhw.f zhw.name zhw.body zhw.next zhw.find oh hz'.out rfl rfl λn8 w8 s8=>zad ?_;refine nm ?_;clear hlv hlv2;have a7:bits .and .u64 0 2147483648=0:=by have h:=a1;simpa using h
   refine zaf (zaf ?_);refine qa ?_;refine pg ?_;refine qk ?_;refine pu ?_;refine ql ?_;refine qg ?_;refine zap (zbc ?_);exact⟨rfl,_,resultsC_none og _,by simp only;rw [<-hd'.out],rfl,((sees5.out.trans s6).trans s7).trans s8⟩
  .have e2:¬((v:Int)=0):=oc
   have hv0:0<v:=oc
   refine qd ?_;refine qg ?_;refine zap ⟨rfl,sees5.out,_,rfl,by simp [h0],od,od,hv0,?_,?_⟩
   .rcases hc'.out with ⟨h,_⟩|⟨_,h,_⟩
    .exact absurd h e
    .exact h
   .rcases hc'.out with ⟨h,_⟩|⟨_,_,h⟩
    .exact absurd h e
    .exact h
 clear h0 a1 a2 a3 a4 sees5 hc'
 rintro _ _ w6 ⟨rfl,sq,F6,rfl,h0,h2,h4,hv0,rfl,hn2⟩
 have sees6:=Hid.mk sq
 have hn2':=Hid.mk hn2
 have hv0':=Hid.mk hv0
 have hvb:=hvb'.out
 have a1:=ConcN.st_flag v 0 hvb oe
 simp only [kcr,kd2] at a1
 clear sq hn2 hv0 hvb
 refine qh ?_
 refine qo ?_
 refine pu ?_
 refine za4 rfl og rfl (vs:=#[.pointer (some (wgA p.Wg)),wgv v 0,wgv v 1]) (by simp [Act.eval,wgv, *]) (z86 _ _ v hz'.out hs'.out ha'.out hv0'.out hn2'.out) λs7 v7 w7 hp=>zad ?_
 obtain⟨n7,τ7,O7⟩:=s7
 obtain⟨e2,sees7,hp⟩:=hp
 simp only at e2 hp
 subst e2
 rcases hp with ⟨rfl,rfl⟩|⟨rfl,rfl,hlt⟩
 .refine nm ?_;refine ct ?_;have sees8:=Hid.mk (sees6.out.trans sees7);clear sees7;have hlv:zar 0 (⟨n7,{ s.τ with d:=1,s:=1 },s.O⟩:PSt):=lv0 hz'.out (show(1:Nat)<3 by decide);refine zaf (zaf ?_);refine qd ?_;refine pg ?_;refine pg ?_;refine qj ?_;refine qa ?_
  (co_applyP zdf ?hl2 (.pointer (some (wgS p.Wg))) rfl og ?hr2 ?h2;(case hl2=>exact hlv);(case hr2=>(intro w1 st sm st' sm' _ hWg;have hc:=(ze4 hWg).2.1;have hu:=z9d hc;exact⟨run_eq_of λK hK=>ou,listed_nil (by simp [go_sem,zxm hc, *])⟩));refine nm ?_);intro n9 w9 l9 s9
  refine z0g .write (.inr rfl) rfl og rfl zig.f zig.name zig.body zig.next zig.find oh hlv λn10 w10 l10 s10=>zad ?_;refine nm ?_;have sees10:=Hid.mk ((sees8.out.trans s9).trans s10);clear s9 s10 l9 l10 sees8 sees6;refine qc ?_;refine zaf (zaf ?_);refine qa ?_;refine pu ?_;refine uw ?_;refine qg ?_;refine zap (zaf ?_);refine qa ?_;refine pu ?_
  refine zxx rfl og rfl zlp.f zlp.name zlp.body zlp.next zlp.find oh hz'.out rfl λn11 w11 s11=>zad ?_;refine nm ?_;have sees11:=Hid.mk (sees10.out.trans s11);clear s11 sees10;refine qh ?_;refine za4 rfl og rfl (vs:=#[.pointer (some (wgA p.Wg))]) oh (z84 _ _ hz'.out rfl) λs12 v12 w12 hp=>?_;obtain⟨n12,τ12,O12⟩:=s12
  obtain⟨rfl,e1,e2,sees12⟩:=hp;simp only at e1 e2;subst e1 e2;refine nm ?_;refine pu ?_;refine qb ?_;have hlv2:=hlv;clear hlv;have hlv:zar 0 (⟨n12,{ s.τ with d:=1,s:=2 },s.O⟩:PSt):=lv0 hz'.out (show(2:Nat)<3 by decide);refine zaf (zdm (t:=true) rfl ?_);simp only [if_true];refine qn ?_
  refine zcy hlv .enable (.inr rfl) rfl og rfl zlq.f zlq.name zlq.body zlq.next zlq.find 0 rfl λn13 w13 l13 s13=>zad ?_;refine nm ?_;have hlv3:=hlv;clear hlv;have hlv:zar 0 (⟨n13,{ s.τ with d:=0,s:=2 },s.O⟩:PSt):=lv0 hz'.out (show(2:Nat)<3 by decide);refine qd ?_
  (co_applyP zdf ?hl3 (.pointer (some (wgA p.Wg))) rfl og ?hr3 ?h3;(case hl3=>exact hlv);(case hr3=>(intro w1 st sm st' sm' _ hWg;have hc:=(ze4 hWg).1;have hu:=zy4 hc;exact⟨run_eq_of λK hK=>ou,listed_nil (by simp [go_sem,zlu hc, *])⟩));refine nm ?_);intro n14 w14 l14 s14
  refine zrw rfl og rfl zhw.f zhw.name zhw.body zhw.next zhw.find oh hz'.out rfl rfl λn15 w15 s15=>zad ?_;refine nm ?_;refine zaf (zaf ?_);refine rg ?_;refine qg ?_;refine zap (zbc ?_);exact⟨rfl,_,resultsC_none og _,by simp only;rw [<-hd'.out],rfl,(((sees11.out.trans sees12).trans s13).trans s14).trans s15⟩
 .refine nm ?_;refine cf ?_;refine zap ?_;exact⟨_,kaf hlt l4'.out.1,_,rfl,rfl,rfl,sees6.out.trans sees7,rfl,by simp [h0]⟩
end
end Go.Kp
