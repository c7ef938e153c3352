/- What all laws about sales rest on, beside any goroutines. Conditions: none. -/
import Derived.Test.YtfgciihkmemdlaaGreatDoorZb
import Derived.Conc.AppendWalk
namespace Go.Kp
open Go Go.Conc Go.ConcM Go.Proofs
section
variable{p:Par}{hst:yp0 p}{S:zkv p Tryz.prog 0}
set_option maxHeartbeats 4000000 in
theorem yf0(s:PSt)(w:World)(hz:s.τ.z=0)(hs:s.τ.s=0)(ha:s.τ.a=0)(hd:s.τ.d=0)(hcap:8*(p.cap-p.b)+8<2147483632) :
  zhv (jdg p hst Tryz.prog 0 S) 62 #[.pointer (some (wgA p.Wg)),.int .i64 1] s w (λs' _ w'=>s'.τ={ s.τ with a:=1 }/\s'.O=s.O/\zay (λx=>s.O x\/p.ro x) w w'):=by
 refine zj3 Tryz.func62 og rfl 117 og od λF hF'=>?_
 have h0:F 0=.pointer (some (wgA p.Wg)):=hF' 0 _ rfl
 have h1:F 1=.int .i64 1:=hF' 1 _ rfl
 clear hF'
 have hlv:zar 0 s:=lv0 hz oc
 refine zaf (zdm (t:=true) rfl ?_)
 simp only [if_true]
 refine zaf (zaf ?_)
 refine qd ?_
 refine qg ?_
 refine zap ?_
 refine qn ?_
 refine zcy hlv .disable (.inl rfl) rfl og rfl ze2.f ze2.name ze2.body ze2.next ze2.find 1 (by rw [hd];rfl) λn3 w3 l3 s3=>zad ?_
 refine nm ?_
 refine rg ?_
 refine zjm rfl og rfl (vs:=#[]) od (zad ?_)
 refine nm ?_
 refine qc ?_
 refine zaf (zaf ?_)
 refine rg ?_
 refine zl9 (.bool false) rfl og rfl z3x (zad ?_)
 refine nm ?_
 refine cf ?_
 refine zap ?_
 refine qh ?_
 refine qo ?_
 refine pu ?_
 refine za4 rfl og rfl (vs:=#[.pointer (some (wgA p.Wg)),.int .u64 4294967296]) (by simp [Act.eval, *];rfl) (yfv _ _ hz hs ha hcap) λs4 v4 w4 hp=>?_
 obtain⟨n4,τ4,O4⟩:=s4
 obtain⟨e1,e2,sees4,v,rfl,hv1,hv⟩:=hp
 simp only at e1 e2
 subst e2
 refine qm ?_
 have hvb:v<2147483648:=oc
 have a1:=ConcN.st_flag v 0 hvb oe
 have a2:=ConcN.st_waiters v 0 hvb oe
 have a3:((v:Int)*4294967296+((0:Nat):Int)) / 4294967296=(v:Int):=oc
 have a4:=zb5 (v:Int) oc oc
 have a6:¬((v:Int)<0):=oc
 have hvb':=Hid.mk hvb
 have hv':=Hid.mk hv
 have hv1':=Hid.mk hv1
 have e1':=Hid.mk e1
 have hd':=Hid.mk hd
 have hl4:zar 0 ⟨n4,τ4,s.O⟩:=lv0 (by simp only;rw [e1];exact hz) (by simp only;rw [e1];show s.τ.s<3;omega)
 have sees5:=Hid.mk (s3.trans sees4)
 clear e1 hvb hv hv1 sees4 s3 hz hs ha hd hcap hlv l3
 simp only [kcr,kd2] at a1 a2 a3
 simp only [wgv,kcr,kd2]
 refine zfr (λs' a' w'=>s'=⟨n4,τ4,s.O⟩/\zay (λx=>s.O x\/p.ro x) w w'/\∃F,a'=⟨tab 117 F,[dcall 127 #[]]⟩/\F 0=.pointer (some (wgA p.Wg))/\F 1=.int .i64 1/\F 4=.bool false/\F 6=.int .u64 ((v:Int)*4294967296)) ?_ ?_
 .refine zaf ?_;refine qa ?_;refine pu ?_;refine ql ?_;refine qg ?_;exact zap ⟨rfl,sees5.out,_,rfl,by simp [h0],by simp [h1],od,od⟩
 clear h0 h1
 rintro _ _ w5 ⟨rfl,sq,F5,rfl,h0,h1,h4,h6⟩
 have sees5':=Hid.mk sq
 clear sq
 refine zfr (λs' a' w'=>s'=⟨n4,τ4,s.O⟩/\zay (λx=>s.O x\/p.ro x) w w'/\∃F,a'=⟨tab 117 F,[dcall 127 #[]]⟩/\F 0=.pointer (some (wgA p.Wg))/\F 1=.int .i64 1/\F 4=.bool false/\F 6=.int .u64 ((v:Int)*4294967296)/\F 7=.int .i32 (v:Int)) ?_ ?_
 .refine rg ?_;refine qo ?_;refine pu ?_;refine qb ?_;exact⟨rfl,sees5'.out,_,rfl,by simp [h0],by simp [h1],by simp [h4],by simp [h6],od⟩
 clear h0 h1 h4 h6
 rintro _ _ w6 ⟨rfl,sq,F6,rfl,h0,h1,h4,h6,h7⟩
 have sees6:=Hid.mk sq
 clear sq
 refine zfr (λs' a' w'=>s'=⟨n4,τ4,s.O⟩/\zay (λx=>s.O x\/p.ro x) w w'/\∃F,a'=⟨tab 117 F,[dcall 127 #[]]⟩/\F 0=.pointer (some (wgA p.Wg))/\F 1=.int .i64 1/\F 4=.bool false/\F 6=.int .u64 ((v:Int)*4294967296)/\F 7=.int .i32 (v:Int)/\F 8=.int .u32 0) ?_ ?_
 .refine rg ?_;refine qo ?_;refine pu ?_;refine qb ?_;exact⟨rfl,sees6.out,_,rfl,by simp [h0],by simp [h1],by simp [h4],by simp [h6],by simp [h7],by simp<;>rfl⟩
 clear h0 h1 h4 h6 h7 a1 a2 a3
 rintro _ _ w7 ⟨rfl,sq,F7,rfl,h0,h1,h4,h6,h7,h8⟩
 have sees7:=Hid.mk sq
 clear sq
 have k1:IntKind.i32.wrap 1=1:=rfl
 have h6':=Hid.mk h6
 have h7':=Hid.mk h7
 clear h6
 refine zfr (λs' a' w'=>(s'.τ=τ4/\s'.O=s.O/\zay (λx=>s.O x\/p.ro x) w w')/\∃F,a'=⟨tab 117 F,[dcall 127 #[]]⟩/\F 0=.pointer (some (wgA p.Wg))/\F 1=.int .i64 1/\F 4=.bool false/\F 6=.int .u64 ((v:Int)*4294967296)/\F 7=.int .i32 (v:Int)/\F 8=.int .u32 0) ?_ ?_
 .refine zaf ?_;by_cases e:v=1
  .have g7:F7 7=.int .i32 1:=by rw [h7,e];rfl
   clear h7 e a4 a6;refine qd ?_;refine qk ?_;refine qe ?_;refine pg ?_;refine qj ?_;have hlv:=hl4;refine qa ?_;(co_applyP zdf ?hl1 (.pointer (some (wgS p.Wg))) rfl og ?hr1 ?h1;(case hl1=>exact hlv);(case hr1=>(intro w1 st sm st' sm' _ hWg;have hc:=(ze4 hWg).2.1;have hu:=z9d hc;exact⟨run_eq_of λK hK=>ou,listed_nil (by simp [go_sem,zxm hc, *])⟩));refine nm ?_)
   intro n8 w8 l8 s8;refine z0g .read (.inl rfl) rfl og rfl yfp.f yfp.name yfp.body yfp.next yfp.find oh hl4 λn9 w9 l9 s9=>zad ?_;refine nm ?_;exact⟨⟨rfl,rfl,(sees7.out.trans s8).trans s9⟩,_,rfl,by simp [h0],by simp [h1],by simp [h4],by simp [h6'.out],by simp [h7'.out],by simp [h8]⟩
  .have e2:¬((v:Int)=1):=oc
   refine qd ?_;refine qk ?_;refine qe ?_;refine pg ?_;refine qg ?_;exact zap ⟨⟨rfl,rfl,sees7.out⟩,_,rfl,by simp [h0],by simp [h1],by simp [h4],by simp [h6'.out],by simp [h7'.out],by simp [h8]⟩
 clear h0 h1 h4 h7 h8 h6' h7' k1
 rintro⟨n10,τ10,O10⟩ _ w10 ⟨⟨e1,e2,sq⟩,F10,rfl,h0,h1,h4,h6,h7,h8⟩
 simp only at e1 e2
 have e1:=e1.symm
 subst e1 e2
 have sees10:=Hid.mk sq
 clear sq h6
 refine zfr (λs' a' w'=>(s'.τ=τ4/\s'.O=s.O/\zay (λx=>s.O x\/p.ro x) w w')/\∃F,a'=⟨tab 117 F,[dcall 127 #[]]⟩/\F 0=.pointer (some (wgA p.Wg))/\F 1=.int .i64 1/\F 4=.bool false/\F 7=.int .i32 (v:Int)/\F 8=.int .u32 0) ?_ ?_
 .refine zaf ?_;refine qd ?_;refine qg ?_;exact zap ⟨⟨rfl,rfl,sees10.out⟩,_,rfl,by simp [h0],by simp [h1],by simp [h4],by simp [h7],by simp [h8]⟩
 clear h0 h1 h4 h7 h8
 rintro⟨n11,τ11,O11⟩ _ w11 ⟨⟨e1,e2,sq⟩,F11,rfl,h0,h1,h4,h7,h8⟩
 simp only at e1 e2
 have e1:=e1.symm
 subst e1 e2
 have sees11:=Hid.mk sq
 clear sq
 refine zfr (λs' a' w'=>(s'.τ=τ4/\s'.O=s.O/\zay (λx=>s.O x\/p.ro x) w w')/\∃F,a'=⟨tab 117 F,[dcall 127 #[]]⟩/\F 0=.pointer (some (wgA p.Wg))/\F 1=.int .i64 1/\F 4=.bool false/\F 7=.int .i32 (v:Int)/\F 8=.int .u32 0) ?_ ?_
 .refine zaf ?_;refine qa ?_;refine ql ?_;refine pu ?_;refine qf ?_;refine uw ?_;refine qg ?_;exact zap ⟨⟨rfl,rfl,sees11.out⟩,_,rfl,by simp [h0],by simp [h1],by simp [h4],by simp [h7],by simp [h8]⟩
 clear h0 h1 h4 h7 h8
 rintro⟨n12,τ12,O12⟩ _ w12 ⟨⟨e1,e2,sq⟩,F12,rfl,h0,h1,h4,h7,h8⟩
 simp only at e1 e2
 have e1:=e1.symm
 subst e1 e2
 have sees12:=Hid.mk sq
 clear sq
 have b0:0<v:=hv1'.out
 have b1:¬v=0:=oc
 refine zaf (zaf ?_)
 refine qa ?_
 refine ql ?_
 refine qj ?_
 refine zbc (z7u zlq rfl ⟨hl4.1,hl4.2⟩ 0 (by rw [e1'.out];rfl) λn13 w13 l13 s13=>zfx rfl ⟨_,resultsC_none og _,?_,rfl,sees12.out.trans s13⟩)
 simp only
 rw [e1'.out]
 simp only
 rw [<-hd'.out]
end
def zfp(R:Nat->Prop)(w:World)(v:Value)(xs:List Int):Prop :=
 ∃a c,v=.slice a xs.length c/\∀j x,xs[j]?=some x->∃ad,a=some ad/\R ad.block/\w.cell? (ad.add j)=some (.int .i64 x)
theorem zfp.sees{R:Nat->Prop}{w w1:World}{v:Value}{xs:List Int}(h:zfp R w v xs)(hs:zay R w w1):zfp R w1 v xs:=by obtain⟨a,c,e,h⟩:=h;refine⟨a,c,e,λj x hj=>?_⟩;obtain⟨ad,h1,h2,h3⟩:=h j x hj;exact⟨ad,h1,h2,hs.cell (ad:=ad.add j) (by rw [zb1];exact h2) h3⟩
section
variable{p:Par}{hst:yp0 p}{i:Nat}{S:zkv p Tryz.prog i}
structure EqI(p:Par)(s:PSt)(w:World)(u v:Value)(xs ys:List Int)(k:Nat)(s':PSt)(a':Go.Act)(w':World)(F:Nat->Value):Prop where
 st:s=s'
 sees:zay (λx=>s.O x\/p.ro x) w w'
 a:a'=⟨tab 26 F,[]⟩
 f0:F 0=u
 f1:F 1=v
 f12:F 12=.int .i64 (xs.length:Int)
 f13:F 13=.int .i64 (k:Int)
 le:k<=xs.length
 pre:xs.take k=ys.take k
def EqM(p:Par)(s:PSt)(w:World)(u v:Value)(n k:Nat)(b:Bool)(s':PSt)(a':Go.Act)(w':World):Prop :=
 s=s'/\zay (λx=>s.O x\/p.ro x) w w'/\∃F,a'=⟨tab 26 F,[]⟩/\F 0=u/\F 1=v/\F 12=.int .i64 (n:Int)/\F 13=.int .i64 (k:Int)/\F 24=.bool b
theorem EqM.rely{p:Par}{s:PSt}{w:World}{u v:Value}{n k:Nat}{b:Bool}(a':Go.Act)(x y:World)(h:EqM p s w u v n k b s a' x)(r:zay (λx=>s.O x\/p.ro x) x y):EqM p s w u v n k b s a' y:=⟨h.1,h.2.1.trans r,h.2.2⟩
theorem ya6(s:PSt)(w:World)(hlv:zar i s)(hz:s.τ.z=0)(u v:Value)(xs ys:List Int)(hu:zfp (λx=>s.O x\/p.ro x) w u xs)(hv:zfp (λx=>s.O x\/p.ro x) w v ys)(hlen:xs.length<1000000)(hlen2:ys.length<1000000) :
  zbv (jdg p hst Tryz.prog i S) 68 #[u,v] s w (λs' r w'=>s'=s/\zay (λx=>s.O x\/p.ro x) w w'/\r=.bool (decide (xs=ys))):=by
 refine zaz Tryz.func68 og rfl 26 og od λF hF'=>?_
 obtain⟨au,cu,eu,hu⟩:=hu
 obtain⟨av,cv,ev,hv⟩:=hv
 subst eu ev
 have h0:F 0=.slice au xs.length cu:=hF' 0 _ rfl
 have h1:F 1=.slice av ys.length cv:=hF' 1 _ rfl
 clear hF'
 refine qc ?_
 refine zaf (zaf ?_)
 refine qa ?_
 refine pu ?_
 refine qb ?_
 by_cases hne:xs.length=ys.length
 case neg =>
  have hne':¬((xs.length:Int)=(ys.length:Int)):=oc
  refine ct ?_;refine qc ?_;refine zbc ⟨rfl,_,resultsC_tmp (t:=4) og _,rfl,zay.refl _ _,?_⟩;have:¬xs=ys:=λe=>hne (by rw [e]);simp [this]
 have hne':(xs.length:Int)=(ys.length:Int):=oc
 refine cf ?_
 have hneH:=Hid.mk hne
 refine zap (zaf (zaf ?_))
 refine qi ?_
 refine zbq (zfs kbu (λx s' a' w'=>∃k F,x=xs.length-k/\EqI p s w (.slice au xs.length cu) (.slice av ys.length cv) xs ys k s' a' w' F) xs.length ⟨0,_,rfl,rfl,zay.refl _ _,rfl,by simp [h0],by simp [h1],by simp [hne'],od,kb6 _,rfl⟩ ?_)
 clear h0 h1 hne hne'
 rintro _ _ _ w2 ⟨k,F2,rfl,rfl,sees2,rfl,h0,h1,h12,h13,hk,hpre⟩
 refine qc ?_
 by_cases hkl:k<xs.length
 case neg =>
  have hkl':¬((k:Int)<(xs.length:Int)):=oc
  refine zaf ?_;refine cf ?_;refine zih ?_;refine qc ?_;refine zbc ⟨rfl,_,resultsC_tmp (t:=4) og _,rfl,sees2,?_⟩;have:xs=ys:=by have:=hneH.out;rw [kb4 oc,kb4 oc] at hpre;exact hpre
  simp [this]
 have hkl':((k:Int)<(xs.length:Int)):=oc
 refine zaf ?_
 refine ct ?_
 refine zap (zaf (zbq (zaf ?_)))
 refine qd ?_
 refine qb ?_
 have hkl2:k<ys.length:=by have:=hneH.out;omega
 obtain⟨x,hx⟩:∃x,xs[k]?=some x:=⟨xs[k],kaa hkl⟩
 obtain⟨y,hy⟩:∃y,ys[k]?=some y:=⟨ys[k],kaa hkl2⟩
 obtain⟨adu,rfl,hru,hcu⟩:=hu k x hx
 obtain⟨adv,rfl,hrv,hcv⟩:=hv k y hy
 have hcu2:=sees2.cell (ad:=adu.add k) (by rw [zb1];exact hru) hcu
 have hcv2:=sees2.cell (ad:=adv.add k) (by rw [zb1];exact hrv) hcv
 have hix:0<=(k:Int)/\(k:Int)<(xs.length:Int):=⟨oc,hkl'⟩
 have hiy:0<=(k:Int)/\(k:Int)<(ys.length:Int):=⟨oc,oc⟩
 refine zfr (EqM p s w (.slice (some adu) xs.length cu) (.slice (some adv) ys.length cv) xs.length k (x != y)) ?_ ?_
 .have hSR:∀x y:World,zay (λx=>s.O x\/p.ro x) w2 x->zay (λx=>s.O x\/p.ro x) x y->zay (λx=>s.O x\/p.ro x) w2 y:=λ_ _ h k=>h.trans k;refine z9w hlv (by first|kernel_rfl|rfl) λw3 hS0=>?_;simp only [kdv,kbo,kbv,Nat.reduceAdd,kb0];have hMR:=EqM.rely (p:=p) (s:=s) (w:=w) (u:=.slice (some adu) xs.length cu) (v:=.slice (some adv) ys.length cv) (n:=xs.length) (k:=k) (b:=x != y)
  (co_applyP zpc (M:=EqM p s w (.slice (some adu) xs.length cu) (.slice (some adv) ys.length cv) xs.length k (x != y)) hlv hSR hMR 0 rfl oj oj oj og (λwq hq=>⟨run_eq_of ?run1,?guar1⟩) hS0 ?rest1);(case run1=>(intro K hK;go_simp;exact hK));(case guar1=>(rw [listed_nil oJ];exact(zdx hlv).idle _));refine nm ?_
  (co_applyP zpc (M:=EqM p s w (.slice (some adu) xs.length cu) (.slice (some adv) ys.length cv) xs.length k (x != y)) hlv hSR hMR 1 rfl oj oj oj og (λwq hq=>⟨run_eq_of ?run2,?guar2⟩) hS0 ?rest2);(case run2=>(intro K hK;go_simp;exact hK));(case guar2=>(rw [listed_nil oJ];exact(zdx hlv).idle _));refine nm ?_
  (co_applyP zpc (M:=EqM p s w (.slice (some adu) xs.length cu) (.slice (some adv) ys.length cv) xs.length k (x != y)) hlv hSR hMR 2 rfl oj oj oj og (λwq hq=>⟨run_eq_of ?run3,?guar3⟩) hS0 ?rest3);(case run3=>(intro K hK;go_simp;exact hK));(case guar3=>(rw [listed_nil oJ];exact(zdx hlv).idle _));refine nm ?_
  have hSc:∀wq:World,zay (λx=>s.O x\/p.ro x) w2 wq->wq.cell? (adu.add k)=some (.int .i64 x):=λwq hq=>hq.cell (by rw [zb1];exact hru) hcu2;have hin:s.O (adu.add k).block\/p.ro (adu.add k).block:=by rw [zb1];exact hru
  (co_applyP zpc (M:=EqM p s w (.slice (some adu) xs.length cu) (.slice (some adv) ys.length cv) xs.length k (x != y)) hlv hSR hMR 3 rfl oj oj oj og (λwq hq=>⟨run_eq_of ?run4,?guar4⟩) hS0 ?rest4);(case run4=>(have hcq:=hSc wq hq;intro K hK;go_simp;exact hK));(case guar4=>(have hcq:=hSc wq hq;exact zz6 hlv hz oJ hin hcq));refine nm ?_
  clear hSc hin
  (co_applyP zpc (M:=EqM p s w (.slice (some adu) xs.length cu) (.slice (some adv) ys.length cv) xs.length k (x != y)) hlv hSR hMR 4 rfl oj oj oj og (λwq hq=>⟨run_eq_of ?run5,?guar5⟩) hS0 ?rest5);(case run5=>(intro K hK;go_simp;exact hK));(case guar5=>(rw [listed_nil oJ];exact(zdx hlv).idle _));refine nm ?_
  (co_applyP zpc (M:=EqM p s w (.slice (some adu) xs.length cu) (.slice (some adv) ys.length cv) xs.length k (x != y)) hlv hSR hMR 5 rfl oj oj oj og (λwq hq=>⟨run_eq_of ?run6,?guar6⟩) hS0 ?rest6);(case run6=>(intro K hK;go_simp;exact hK));(case guar6=>(rw [listed_nil oJ];exact(zdx hlv).idle _));refine nm ?_
  (co_applyP zpc (M:=EqM p s w (.slice (some adu) xs.length cu) (.slice (some adv) ys.length cv) xs.length k (x != y)) hlv hSR hMR 6 rfl oj oj oj og (λwq hq=>⟨run_eq_of ?run7,?guar7⟩) hS0 ?rest7);(case run7=>(intro K hK;go_simp;exact hK));(case guar7=>(rw [listed_nil oJ];exact(zdx hlv).idle _));refine nm ?_
  have hSc:∀wq:World,zay (λx=>s.O x\/p.ro x) w2 wq->wq.cell? (adv.add k)=some (.int .i64 y):=λwq hq=>hq.cell (by rw [zb1];exact hrv) hcv2;have hin:s.O (adv.add k).block\/p.ro (adv.add k).block:=by rw [zb1];exact hrv
  (co_applyP zpc (M:=EqM p s w (.slice (some adu) xs.length cu) (.slice (some adv) ys.length cv) xs.length k (x != y)) hlv hSR hMR 7 rfl oj oj oj og (λwq hq=>⟨run_eq_of ?run8,?guar8⟩) hS0 ?rest8);(case run8=>(have hcq:=hSc wq hq;intro K hK;go_simp;exact hK));(case guar8=>(have hcq:=hSc wq hq;exact zz6 hlv hz oJ hin hcq));refine nm ?_
  clear hSc hin
  (co_applyP zpc (M:=EqM p s w (.slice (some adu) xs.length cu) (.slice (some adv) ys.length cv) xs.length k (x != y)) hlv hSR hMR 8 rfl oj oj oj og (λwq hq=>⟨run_eq_of ?run9,?guar9⟩) hS0 ?rest9);(case run9=>(intro K hK;go_simp;exact hK));(case guar9=>(rw [listed_nil oJ];exact(zdx hlv).idle _));refine nm ?_
  refine anyCH_done oj ?_ _;exact⟨rfl,sees2.trans hS0,_,rfl,by simp [h0],by simp [h1],by simp [h12],by simp [h13],od⟩
 clear h0 h1 h12 h13 hcu2 hcv2
 rintro _ _ w4 ⟨rfl,sees4,F4,rfl,h0,h1,h12,h13,h24⟩
 cases hb:(x != y) with
 | true =>
   rw [hb] at h24;have hxy:x≠y:=oa hb
   refine ct ?_;refine zaf ?_;refine qd ?_;refine zad (zbc ⟨rfl,_,resultsC_tmp (t:=4) og _,rfl,sees4,?_⟩);have:¬xs=ys:=λe=>by subst e;rw [hx] at hy;exact hxy (kaw hy)
   simp [this]
 | false =>
   rw [hb] at h24;have hxy:x=y:=oa hb
   refine cf ?_;refine zap ?_;have hw1:IntKind.i64.wrap ((k:Int)+1)=((k+1:Nat):Int):=by rw [IntKind.wrap_i64];omega
   refine qd ?_;refine pu ?_;refine zad ⟨_,?_,k+1,_,rfl,rfl,sees4,rfl,by simp [h0],by simp [h1],by simp [h12],od,hkl,?_⟩
   .show xs.length-(k+1)<xs.length-k;omega
   .rw [kb8,kb8,hpre,hx,hy,hxy]
end
end Go.Kp
namespace Go.Kp
open Go Go.Conc Go.ConcM
def zaw(w:World)(O:Nat->Prop)(e:TypeId)(Pc:Value->Prop)(v:Value)(xs:List Value):Prop :=
 (v=.slice none 0 0/\xs=[])\/∃g cap cur,v=.slice (some ⟨g,0,none⟩) xs.length cap/\O g/\w.heap[g]?=some (.cells cur e (0,0))/\xs.length<=cap/\cap<=maxLen/\cur.size=cap/\cur.toList.take xs.length=xs/\∀u∈cur,Pc u
theorem zaw.owns{w:World}{O:Nat->Prop}{e:TypeId}{Pc:Value->Prop}{v:Value}{xs:List Value}(h:zaw w O e Pc v xs):w.ownsRow 0 e 1 v xs.length xs:=by
 rcases h with ⟨rfl,rfl⟩|⟨g,cap,cur,h1,_,h2,h3,h4,h5,h6,_⟩
 .exact⟨od,.inl ⟨rfl,rfl⟩⟩
 .exact⟨od,.inr ⟨g,cap,cur,h1,kb6 _,h2,h3,h4,by simp [h5],oa h6⟩⟩
theorem zaw.blk{w:World}{O:Nat->Prop}{e:TypeId}{Pc:Value->Prop}{v:Value}{xs:List Value}(h:zaw w O e Pc v xs){k:Nat}(hk:v.ownBlock=some k):O k/\k<w.heap.size:=by
 rcases h with ⟨rfl,rfl⟩|⟨g,cap,cur,rfl,h1,h2,_⟩
 .cases hk
 .cases hk;exact⟨h1,(kad.1 h2).1⟩
theorem zaw.keep{w w':World}{O O':Nat->Prop}{e:TypeId}{Pc:Value->Prop}{v:Value}{xs:List Value}(h:zaw w O e Pc v xs)(hO:∀k,v.ownBlock=some k->O k->k<w.heap.size->O' k/\w'.heap[k]?=w.heap[k]?):zaw w' O' e Pc v xs:=by
 rcases h with h|⟨g,cap,cur,h1,h2,h3,h4⟩
 .exact .inl h
 .obtain⟨a,b⟩:=hO g (by rw [h1];rfl) h2 (kad.1 h3).1;exact .inr ⟨g,cap,cur,h1,a,by rw [b];exact h3,h4⟩
theorem zaw.cell{w:World}{O:Nat->Prop}{e:TypeId}{Pc:Value->Prop}{v:Value}{xs:List Value}(h:zaw w O e Pc v xs){j:Nat}{x:Value}(hj:xs[j]?=some x):∃g cap,v=.slice (some ⟨g,0,none⟩) xs.length cap/\O g/\w.cell? ((⟨g,0,none⟩:Addr).add j)=some x:=by
 rcases h with ⟨rfl,rfl⟩|⟨g,cap,cur,h1,h2,h3,h4,h5,h6,h7,h8⟩
 .simp at hj
 .refine⟨g,cap,h1,h2,?_⟩;have hlt:j<xs.length:=(kab.1 hj).1;have own:w.ownsRow 0 e 1 v xs.length xs:=zaw.owns (O:=O) (Pc:=Pc) (.inr ⟨g,cap,cur,h1,h2,h3,h4,h5,h6,h7,h8⟩);exact own.cells (g:=g) (by rw [h1];rfl) j x hj
theorem zyl{P:Program}(w:World)(O:Nat->Prop)(t ty e:TypeId)(i:TypeInfo)(z:Value)(bytes:Nat)(Pc:Value->Prop)(ht:P.underlying t=some (.slice e))(hi:P.info? e=some i)(hz:i.zero=some z)
  (hsize:i.size=1) (hby:i.bytes=bytes) (hzs:z.cells=#[z]) (hPz:Pc z) (v:Value) (xs:List Value) (h:zaw w O e Pc v xs) (ad:Addr) (c:Nat) (u:Value) (hc:w.cell? ad=some u) (h1:u.oneCell'=true) (hPu:Pc u) (hold:∀x∈xs,Pc x)
  (h63:xs.length+1<=maxLen) (hbytes:(xs.length+1)*bytes<=140737488355328) :
  ∃v' w',(Builtin.append_ #[t,t] ty #[v,.slice (some ad) 1 c]).run P w=.ok v' w'/\zaw w' (λg=>O g\/(w.heap.size<=g/\g<w'.heap.size)) e Pc v' (xs++[u])/\w.grownBy w' v.ownBlock:=by
 subst hby
 have hnews:∀j x,[u][j]?=some x->w.cell? (ad.add j)=some x:=by
  intro j x hj;cases j with
  | zero=>simp at hj;subst hj;simpa [Addr.add] using hc
  | succ j=>simp at hj
 have hsmall:xs.length+1<=9223372036854775807:=by simp only [maxLen] at h63;omega
 have hzc:∀n,∀x∈Builtin.zeroCells z.cells n,Pc x:=by intro n x hx;rw [hzs] at hx;obtain⟨j,hj,rfl⟩:=kcs.1 hx;simp [Builtin.zeroCells,Nat.mod_one];exact hPz
 have grown:∀(old:Nat),old<xs.length+1->
   zaw (w.drew.alloc (.cells (xs.toArray++#[u]++Builtin.zeroCells z.cells (grownCap w (xs.length+1) old e-(xs.length+1))) e)) (λg=>O g\/(w.heap.size<=g/\g<(w.drew.alloc (.cells (xs.toArray++#[u]++Builtin.zeroCells z.cells (grownCap w (xs.length+1) old e-(xs.length+1))) e)).heap.size)) e Pc
    (.slice (some ⟨w.heap.size,0,none⟩) (xs.length+1) (grownCap w (xs.length+1) old e)) (xs++[u]):=by
  intro old ho
  have hge:=grownCap_ge w (xs.length+1) old e
  have hcm:grownCap w (xs.length+1) old e<=maxLen:=grownCap_le_maxLen w (xs.length+1) old e h63
  refine .inr ⟨w.heap.size,_,_,od,.inr ⟨kac _,by show w.heap.size<(w.heap.push _).size;simp⟩,heap_alloc_new w.drew _,oa hge,hcm,?_,?_,?_⟩
  .simp only [Array.size_append,kdv,size_zeroCells,hzs];simp;omega
  .simp only [Array.toList_append,kbg];rw [<-List.append_assoc];exact List.take_left' od
  .intro x hx;rcases kco.1 hx with hx|hx
   .rcases kco.1 hx with hx|hx
    .exact hold x (oa hx)
    .simp at hx;subst hx;exact hPu
   .exact hzc _ x hx
 have gb:∀(o:Obj) (row:Option Nat),w.grownBy (w.drew.alloc o) row:=λo row=>⟨rfl,rfl,rfl,by show w.heap.size<=(w.heap.push _).size;simp,λk hk _=>heap_alloc_old w.drew _ k hk⟩
 rcases h with ⟨rfl,rfl⟩|⟨g,cap,cur,rfl,hO,hg,hnc,hcm,hcs,htake,hcur⟩
 .have hr:=run_append_nil (P:=P) w t ty e i z ht hi hz ad 1 c [u] (by simp [hsize]) hnews oc oc (by have hb:=hbytes;simp at hb;omega);have hgr:=grown 0 od;simp only [kbv,kb0,kdn] at hgr |-;exact⟨_,_,hr,oa hgr,gb _ _⟩
 .by_cases hroom:xs.length+1<=cap
  .have hfit:xs.length*i.size+[u].length<=cur.size:=by rw [hsize,hcs];simpa using hroom
   have hr:=run_append_room (P:=P) w t ty e i ht hi g xs.length cap cur hg ad 1 c [u] (by simp [hsize]) hnews (oa h1) hroom hfit;refine⟨_,_,hr,.inr ⟨g,cap,_,od,.inl hO,setRow_heap w g cur _ e _ hg,oa hroom,hcm,?_,?_,?_⟩,⟨rfl,rfl,rfl,od,λk _ hk=>setRow_other w g k _ (λe=>hk (by simp [Value.ownBlock,e]))⟩⟩
   .simp only [kdv,kbx,kcj,List.length_drop,Array.length_toList,hsize];simp only [kbo,kbv];omega
   .have e1:cur.toList.take (xs.length*i.size)=xs:=by rw [hsize,kd7];exact htake
    rw [e1];exact List.take_left' od
   .intro x hx;have e1:cur.toList.take (xs.length*i.size)=xs:=by rw [hsize,kd7];exact htake
    rw [e1] at hx;simp only [kdy,kax,kat,kb2,or_false] at hx;rcases hx with (hx|rfl)|hx
    .exact hold x hx
    .exact hPu
    .exact hcur x (by simpa using kby hx)
  .have own:w.ownsRow 0 e 1 (.slice (some ⟨g,0,none⟩) xs.length cap) xs.length xs:=⟨od,.inr ⟨g,cap,cur,rfl,kb6 _,hg,hnc,hcm,by simp [hcs],oa htake⟩⟩;have holds:∀j x,xs[j]?=some x->w.cell? ((⟨g,0,none⟩:Addr).add j)=some x:=own.cells (g:=g) rfl
   have hr:=run_append_grow (P:=P) w t ty e i z ht hi hz ⟨g,0,none⟩ xs.length cap xs (by simp [hsize]) holds ad 1 c [u] (by simp [hsize]) hnews oc oc (growslice_fits oc hbytes);exact⟨_,_,hr,grown cap oc,gb _ _⟩
section
variable{p:Par}{hst:yp0 p}{P:Program}{i:Nat}{S:zkv p P i}
 {fn:FuncId} {Q:Exit->PSt->Go.Act->World->Prop} {s:PSt} {a:Go.Act} {w:World} {ops:Array Oper} {j:Nat} {rest:List Nat} {o:Oper}
theorem zkd(hl:zar i s)(hz:s.τ.z=0)(sx xx:Operand)(t e:TypeId)(i0:TypeInfo)(z:Value)(bytes:Nat)(Pc:Value->Prop)(ht:P.underlying t=some (.slice e))(hi:P.info? e=some i0)(hz0:i0.zero=some z)
  (hsize:i0.size=1) (hby:i0.bytes=bytes) (hzs:z.cells=#[z]) (hPz:Pc z) (ho:ops[j]?=some o) (hw:Region.wanted o (yielded ops a.tmps)=true) (hop:o.op=.call { callee:=.builtin .append,args:=#[sx,xx],argTypes:=#[t,t] })
  (v:Value) (xs:List Value) (hsx:a.eval sx=v) (ad:Addr) (c:Nat) (u:Value) (hxx:a.eval xx=.slice (some ad) 1 c) (R:Nat->Prop) (hR:∀k,R k->s.O k) (hrow:zaw w R e Pc v xs) (hro:∀k,v.ownBlock=some k->¬p.ro k) (hin:s.O ad.block\/p.ro ad.block) (hc:w.cell? ad=some u)
  (h1:u.oneCell'=true) (hPu:Pc u) (hold:∀x∈xs,Pc x) (h63:xs.length+1<=maxLen) (hbytes:(xs.length+1)*bytes<=140737488355328)
  (h:∀v' w' O',(∀x,s.O x->O' x)->(∀x,O' x->s.O x\/w.heap.size<=x/\x<w'.heap.size)->zaw w' (λg=>R g\/(w.heap.size<=g/\O' g)) e Pc v' (xs++[u])->zay (λx=>(s.O x/\v.ownBlock≠some x)\/p.ro x) w w'->
    zbk (jdg p hst P i S) fn ops rest Q ⟨s.n,s.τ,O'⟩ (a.put o.dst v') w') :
  zbk (jdg p hst P i S) fn ops (j::rest) Q s a w:=by
 refine ze8 (D:=jdg p hst P i S) ho hw λw1 hs=>?_
 have hs':zay (λx=>s.O x\/p.ro x) w w1:=hs
 have hrow1:zaw w1 R e Pc v xs:=hrow.keep λk _ hk hlt=>⟨hk,hs'.heap k hlt (.inl (hR k hk))⟩
 have hc1:w1.cell? ad=some u:=hs'.cell (O:=λx=>s.O x\/p.ro x) hin hc
 obtain⟨v',w',hr,hrow',hgb⟩:=zyl (P:=P) w1 R t o.type e i0 z bytes Pc ht hi hz0 hsize hby hzs hPz v xs hrow1 ad c u hc1 h1 hPu hold h63 hbytes
 have hblk:∀k,v.ownBlock=some k->s.O k:=λk hk=>hR k (hrow1.blk hk).1
 have hevs:∀e∈listed P fn a o w1,EvO (grow s.O w1 w') p.ro w'.heap.size e:=λev hev=>by
  have h2:ev∈(execOp a.eval o).events P w1 #[]:=seen_sub hev;rw [events_append_op sx xx t hop hsx hxx] at h2;have h3:=events_append_where (P:=P) w1 0 t o.type e i0 z 1 bytes ht hi hz0 hsize hby v xs.length xs hrow1.owns ad 1 c [u] od (by
   intro q x hq;cases q with
   | zero=>simp at hq;subst hq;simpa [Addr.add] using hc1
   | succ q=>simp at hq) (oa h1) h63 hbytes ev h2
  have hsz:=hgb.size;rcases h3 with ⟨ad',e1,e2⟩|⟨m,rfl,e2⟩
  .obtain⟨loc,wr,sy⟩:=ev;simp only at e1 e2;subst e1;have hb:ad'.block<w'.heap.size/\(grow s.O w1 w' ad'.block\/(p.ro ad'.block/\wr=false)):=by
     rcases e2 with ⟨rfl,e2⟩|e2
     .rw [e2];refine⟨kaf (World.block_lt_of_cell? w1 ad hc1) hsz,hin.imp .inl λh=>⟨h,rfl⟩⟩
     .obtain⟨b1,b2⟩:=hrow1.blk e2.symm;exact⟨kaf b2 hsz,.inl (.inl (hR _ b1))⟩
   refine⟨λx hx=>?_,λa=>by simp [MemAct.ofEvent],od,od,hb.1⟩;have hxl:x=⟨.cell ad',wr,if sy then .atomic else .plain⟩:=by simp only [MemAct.ofEvent,MemAct.touch?,kap] at hx;exact hx.symm
   subst hxl;exact⟨ad'.block,rfl,hb.2⟩
  .unfold Neutral at e2;subst e2;exact⟨λx hx=>by simp [MemAct.ofEvent,MemAct.touch?] at hx,λa=>by simp [MemAct.ofEvent],od,od,trivial⟩
 have hJ:JOk p i s w1 w' (listed P fn a o w1) ⟨s.n,s.τ,grow s.O w1 w'⟩:=λ_=>⟨rfl,rfl,rfl,.inl hz,hgb.size,hgb.tape,hgb.output,by rw [hgb.os];exact .refl _,λx hx hno=>hgb.block x hx λhk=>hno (hblk x hk.symm),hevs⟩
 refine uponK_append (K:=λa' w'=>∃s',(jdg p hst P i S).Ok s w1 w' (listed P fn a o w1) s'/\zbk (jdg p hst P i S) fn ops rest Q s' a' w') sx xx t hop hsx hxx hr ⟨_,⟨hl,hJ⟩,?_⟩
 refine h v' w' (grow s.O w1 w') (λx hx=>.inl hx) (λx hx=>hx.imp id λhx=>⟨kak hs'.size hx.1,hx.2⟩) (hrow'.keep λk _ hk _=>⟨hk.imp id λhk=>⟨kak hs'.size hk.1,.inr hk⟩,rfl⟩) ?_
 refine(hs'.mono λx hx=>hx.imp And.left id).trans ⟨hgb.tape,hgb.output,by rw [hgb.os];exact .refl _,hgb.size,λb hb hx=>hgb.block b hb λhk=>?_⟩
 rcases hx with hx|hx
 .exact hx.2 hk.symm
 .exact hro b hk.symm hx
theorem zk1(hl:zar i s)(hz:s.τ.z=0)(o1:Obj)(f:Nat->Value)(ho:ops[j]?=some o)(hw:Region.wanted o (yielded ops a.tmps)=true)
  (hrun:∀w1:World,(execOp a.eval o).run P w1=.ok (.value (f w1.heap.size)) (w1.alloc o1)/\(execOp a.eval o).events P w1 #[]=#[])
  (h:∀b w',w.heap.size<=b->b<w'.heap.size->w'.heap[b]?=some o1->zay (λx=>s.O x\/p.ro x) w w'->zbk (jdg p hst P i S) fn ops rest Q ⟨s.n,s.τ,λx=>s.O x\/x=b⟩ (a.put o.dst (f b)) w') :
  zbk (jdg p hst P i S) fn ops (j::rest) Q s a w:=by
 refine ze8 (D:=jdg p hst P i S) ho hw λw1 hs=>?_
 have hs':zay (λx=>s.O x\/p.ro x) w w1:=hs
 obtain⟨hr,he⟩:=hrun w1
 have hsz:(w1.alloc o1).heap.size=w1.heap.size+1:=World.size_alloc w1 o1
 have hg:grow s.O w1 (w1.alloc o1)=λx=>s.O x\/x=w1.heap.size:=by
  funext x;apply propext;unfold grow;rw [hsz];constructor
  .rintro(h|h)
   .exact .inl h
   .exact .inr oc
  .rintro(h|h)
   .exact .inl h
   .exact .inr oc
 have hJ:JOk p i s w1 (w1.alloc o1) (listed P fn a o w1) ⟨s.n,s.τ,λx=>s.O x\/x=w1.heap.size⟩:=λ_=>⟨rfl,rfl,hg.symm,.inl hz,oc,rfl,rfl,.refl _,λx hx _=>heap_alloc_old w1 o1 x hx,λe he'=>by
  have h2:e∈(execOp a.eval o).events P w1 #[]:=seen_sub he';rw [he] at h2;simp at h2⟩
 show uponK o a _ ((execOp a.eval o).run P w1)
 rw [hr]
 exact⟨_,⟨hl,hJ⟩,h w1.heap.size (w1.alloc o1) hs'.size oc (heap_alloc_new w1 o1) (hs'.trans ⟨rfl,rfl,.refl _,oc,λb hb _=>heap_alloc_old w1 o1 b hb⟩)⟩
theorem zt0(hl:zar i s)(hz:s.τ.z=0)(b:Nat)(t:TypeId)(old v:Value)(hO:s.O b)(hro:¬p.ro b)(hb:w.heap[b]?=some (.cells #[old] t (0,0)))(ho:ops[j]?=some o)(hw:Region.wanted o (yielded ops a.tmps)=true)
  (hrun:∀w1:World,w1.cell? ⟨b,0,none⟩=some old->w1.frozen? ⟨b,0,none⟩=false->(execOp a.eval o).run P w1=.ok .skip (w1.setCell ⟨b,0,none⟩ v)/\(execOp a.eval o).events P w1 #[]=#[⟨.cell ⟨b,0,none⟩,true,false⟩])
  (h:∀w',w'.heap[b]?=some (.cells #[v] t (0,0))->zay (λx=>(s.O x/\x≠b)\/p.ro x) w w'->zbk (jdg p hst P i S) fn ops rest Q s (a.put o.dst undef) w') :
  zbk (jdg p hst P i S) fn ops (j::rest) Q s a w:=by
 refine ze8 (D:=jdg p hst P i S) ho hw λw1 hs=>?_
 have hs':zay (λx=>s.O x\/p.ro x) w w1:=hs
 have hlt:b<w.heap.size:=(kad.1 hb).1
 have hb1:w1.heap[b]?=some (.cells #[old] t (0,0)):=by rw [hs'.heap b hlt (.inl hO)];exact hb
 have hlt1:b<w1.heap.size:=(kad.1 hb1).1
 have hc:w1.cell? ⟨b,0,none⟩=some old:=by simp [World.cell?,hb1]
 have hfz:w1.frozen? ⟨b,0,none⟩=false:=by simp [World.frozen?,hb1]
 obtain⟨hr,he⟩:=hrun w1 hc hfz
 have hset:=setCell_eq_setRow w1 b 0 #[old] t (0,0) v hb1
 have hb2:(w1.setCell ⟨b,0,none⟩ v).heap[b]?=some (.cells #[v] t (0,0)):=by rw [hset,setRow_heap w1 b #[old] _ t (0,0) hb1];rfl
 have hoth:∀x,x≠b->(w1.setCell ⟨b,0,none⟩ v).heap[x]?=w1.heap[x]?:=λx hx=>by rw [hset];exact setRow_other w1 b x _ hx
 have hsz:(w1.setCell ⟨b,0,none⟩ v).heap.size=w1.heap.size:=by rw [hset];simp
 have hJ:JOk p i s w1 (w1.setCell ⟨b,0,none⟩ v) (listed P fn a o w1) s:=λ_=>⟨rfl,rfl,(zc2 hsz).symm,.inl hz,oc,rfl,rfl,.refl _,λx _ hno=>hoth x λe=>hno (by subst e;exact hO),λe he'=>by
  have h2:e∈(execOp a.eval o).events P w1 #[]:=seen_sub he';rw [he] at h2;simp only [kdy,kat,kb2,or_false] at h2;subst h2;exact zm4 (.inl (by rw [zc2 hsz];exact hO)) (by rw [hsz];exact hlt1)⟩
 show uponK o a _ ((execOp a.eval o).run P w1)
 rw [hr]
 refine⟨_,⟨hl,hJ⟩,h _ hb2 ((hs'.mono λx hx=>hx.imp And.left id).trans ⟨rfl,rfl,.refl _,oc,λx _ hx=>hoth x λe=>?_⟩)⟩
 subst e
 rcases hx with hx|hx
 .exact hx.2 rfl
 .exact hro hx
end
end Go.Kp
namespace Go.Kp
open Go Go.Conc Go.ConcM Go.Proofs
def zdz(R:Nat->Prop)(w:World)(v:Value)(xss:List (List Int)):Prop :=
 ∃a c,v=.slice a xss.length c/\∀j xs,xss[j]?=some xs->∃ad u,a=some ad/\R ad.block/\w.cell? (ad.add j)=some u/\zfp R w u xs
theorem zdz.sees{R:Nat->Prop}{w w1:World}{v:Value}{xss:List (List Int)}(h:zdz R w v xss)(hs:zay R w w1):zdz R w1 v xss:=by obtain⟨a,c,e,h⟩:=h;refine⟨a,c,e,λj x hj=>?_⟩;obtain⟨ad,u,h1,h2,h3,h4⟩:=h j x hj;exact⟨ad,u,h1,h2,hs.cell (ad:=ad.add j) (by rw [zb1];exact h2) h3,h4.sees hs⟩
section
variable{p:Par}{hst:yp0 p}{i:Nat}{S:zkv p Tryz.prog i}
theorem z18 {P : Program} {f : FuncId} {fn : Func} {c : Code} (hf : P.funcs[f]? = some fn) (hname : (fn.name == "runtime.NumGoroutine") = false) (hb : fn.body = some c) (args : Array Value) (w : World) : (callFunc f args).run P w = .ok (.enter f args) w := by
 have h1 : fn.name ≠ "runtime.NumGoroutine" := by simpa using hname
 simp [callFunc,hf,h1,hb]
theorem z19 {P : Program} {f : FuncId} {fn : Func} {c : Code} (hf : P.funcs[f]? = some fn) (hname : (fn.name == "runtime.NumGoroutine") = false) (hb : fn.body = some c) (args : Array Value) (w : World) : (callFunc f args).events P w #[] = #[] := by
 have h1 : fn.name ≠ "runtime.NumGoroutine" := by simpa using hname
 simp [callFunc,hf,h1,hb]
structure zu0(p:Par)(s:PSt)(w:World)(pl:Addr)(ls:List Int):Prop where
 ex:∃l,w.cell? pl=some l/\zfp (λx=>s.O x\/p.ro x) w l ls
 rd:s.O pl.block\/p.ro pl.block
 len:ls.length<1000000
theorem zu0.sees{s:PSt}{w w1:World}{pl:Addr}{ls:List Int}(h:zu0 p s w pl ls)(hs:zay (λx=>s.O x\/p.ro x) w w1):zu0 p s w1 pl ls:=by obtain⟨l,h1,h2⟩:=h.ex;exact⟨⟨l,hs.cell (O:=λx=>s.O x\/p.ro x) h.rd h1,h2.sees hs⟩,h.rd,h.len⟩
theorem z2h(s:PSt)(w:World)(hlv:zar i s)(hz:s.τ.z=0)(u:Value)(pl:Addr)(xs ls:List Int)(hu:zfp (λx=>s.O x\/p.ro x) w u xs)(hp:zu0 p s w pl ls)(hlen:xs.length<1000000) :
  zbv (jdg p hst Tryz.prog i S) 67 #[u,.pointer (some pl)] s w (λs' r w'=>s'=s/\zay (λx=>s.O x\/p.ro x) w w'/\r=.bool (decide (xs=ls))):=by
 refine zaz Tryz.func67 og rfl 7 og od λF hF'=>?_
 have h0:F 0=u:=hF' 0 _ rfl
 have h1:F 1=.pointer (some pl):=hF' 1 _ rfl
 clear hF'
 obtain⟨⟨l,hl1,hl2⟩,hrd,hlen2⟩:=hp
 refine qc ?_
 refine zaf ?_
 refine qd ?_
 refine zgq l pl hlv hz hrd hl1 rfl og ol ?_
 refine nm ?_
 refine za4 rfl og rfl (vs:=#[u,l]) oh (ya6 _ _ hlv hz u l xs ls hu hl2 hlen hlen2) λs4 v4 w4 hp=>?_
 obtain⟨rfl,sees4,rfl⟩:=hp
 refine nm ?_
 refine pu ?_
 refine zad (zbc ⟨rfl,_,resultsC_tmp (t:=3) og _,rfl,sees4,?_⟩)
 simp
structure IxI(p:Par)(s:PSt)(w:World)(v f:Value)(n:Nat)(k:Nat)(s':PSt)(a':Go.Act)(w':World)(F:Nat->Value):Prop where
 st:s=s'
 sees:zay (λx=>s.O x\/p.ro x) w w'
 a:a'=⟨tab 19 F,[]⟩
 f0:F 0=v
 f1:F 1=f
 f7:F 7=.int .i64 (n:Int)
 f8:F 8=.int .i64 (k:Int)
 le:k<=n
theorem yaj(s:PSt)(w:World)(hlv:zar i s)(hz:s.τ.z=0)(v:Value)(pl:Addr)(xss:List (List Int))(ls:List Int)(hv:zdz (λx=>s.O x\/p.ro x) w v xss)(hp:zu0 p s w pl ls)(hlen:xss.length<1000000)(hlens:∀xs∈xss,xs.length<1000000) :
  zbv (jdg p hst Tryz.prog i S) 138 #[v,.func (.func 67) #[] #[.pointer (some pl)]] s w
   (λs' r w'=>s'=s/\zay (λx=>s.O x\/p.ro x) w w'/\∃k:Int,r=.int .i64 k/\(0<=k↔ls∈xss)):=by
 refine zaz Tryz.func138 og rfl 19 og od λF hF'=>?_
 obtain⟨av,cv,ev,hv⟩:=hv
 subst ev
 have h0:F 0=.slice av xss.length cv:=hF' 0 _ rfl
 have h1:F 1=.func (.func 67) #[] #[.pointer (some pl)]:=hF' 1 _ rfl
 clear hF'
 refine qc ?_
 refine zaf (zaf ?_)
 refine qi ?_
 refine zbq (zfs kbu (λx s' a' w'=>∃k F,x=xss.length-k/\IxI p s w (.slice av xss.length cv) (.func (.func 67) #[] #[.pointer (some pl)]) xss.length k s' a' w' F/\ls∉xss.take k) xss.length ⟨0,_,rfl,⟨rfl,zay.refl _ _,rfl,by simp [h0],by simp [h1],od,od,kb6 _⟩,od⟩ ?_)
 clear h0 h1
 rintro _ _ _ w2 ⟨k,F2,rfl,⟨rfl,sees2,rfl,h0,h1,h7,h8,hk⟩,hpre⟩
 refine qc ?_
 by_cases hkl:k<xss.length
 case neg =>
  have hkl':¬((k:Int)<(xss.length:Int)):=oc
  refine zaf ?_;refine cf ?_;refine zih ?_;refine qc ?_;refine zbc ⟨rfl,_,resultsC_tmp (t:=4) og _,rfl,sees2,-1,?_,?_⟩
  .simp
  .rw [kb4 oc] at hpre;exact⟨λh=>absurd h oe,λh=>absurd h hpre⟩
 have hkl':((k:Int)<(xss.length:Int)):=oc
 have hix:0<=(k:Int)/\(k:Int)<(xss.length:Int):=⟨oc,hkl'⟩
 refine zaf ?_
 refine ct ?_
 refine zap (zaf (zbq (zaf ?_)))
 refine qd ?_
 refine qb ?_
 obtain⟨xs,hx⟩:∃x,xss[k]?=some x:=⟨xss[k],kaa hkl⟩
 obtain⟨ad,u,rfl,hr,hc,hu⟩:=hv k xs hx
 have hin:s.O (ad.add k).block\/p.ro (ad.add k).block:=by rw [zb1];exact hr
 have hc2:=sees2.cell (O:=λx=>s.O x\/p.ro x) hin hc
 have hu2:=hu.sees sees2
 refine qh ?_
 refine pu ?_
 refine zgq u (ad.add k) hlv hz hin hc2 rfl og ol ?_
 refine nm ?_
 refine zx1 (f:=67) (args:=#[u,.pointer (some pl)]) rfl og (λw1=>by go_simp;exact z18 Tryz.func67 og og _ _) (λw1=>by simp [go_sem, *];exact z19 Tryz.func67 og og _ _) (z2h _ _ hlv hz u pl xs ls hu2 (hp.sees sees2) (hlens xs (kag hx))) λs4 v4 w4 hq=>zad ?_
 obtain⟨rfl,sees4,rfl⟩:=hq
 refine nm ?_
 by_cases hxl:xs=ls
 .have hd:decide (xs=ls)=true:=oa hxl
  rw [hd];refine ct ?_;refine zaf ?_;refine qd ?_;refine pu ?_;refine zad (zbc ⟨rfl,_,resultsC_tmp (t:=4) og _,rfl,sees2.trans sees4,(k:Int),?_,?_⟩)
  .simp
  .exact⟨λ_=>by rw [<-hxl];exact kag hx,λ_=>oc⟩
 .have hd:decide (xs=ls)=false:=oa hxl
  rw [hd];refine cf ?_;refine zap ?_;have hkb:k<1000000:=oc
  have hw1:IntKind.i64.wrap ((k:Int)+1)=((k+1:Nat):Int):=by rw [IntKind.wrap_i64];omega
  refine qd ?_;refine pu ?_;refine zad ⟨_,?_,k+1,_,rfl,⟨rfl,sees2.trans sees4,rfl,by simp [h0],by simp [h1],by simp [h7],od,hkl⟩,?_⟩
  .show xss.length-(k+1)<xss.length-k;omega
  .rw [kb8,hx];simp only [Option.toList_some,kax,kcg,not_or];exact⟨hpre,λe=>hxl e.symm⟩
theorem zyi(s:PSt)(w:World)(hlv:zar i s)(hz:s.τ.z=0)(v:Value)(pl:Addr)(xss:List (List Int))(ls:List Int)(hv:zdz (λx=>s.O x\/p.ro x) w v xss)(hp:zu0 p s w pl ls)(hlen:xss.length<1000000)(hlens:∀xs∈xss,xs.length<1000000) :
  zbv (jdg p hst Tryz.prog i S) 66 #[v,.func (.func 67) #[] #[.pointer (some pl)]] s w
   (λs' r w'=>s'=s/\zay (λx=>s.O x\/p.ro x) w w'/\r=.bool (decide (ls∈xss))):=by
 refine zaz Tryz.func66 og rfl 9 og od λF hF'=>?_
 have h0:F 0=v:=hF' 0 _ rfl
 have h1:F 1=.func (.func 67) #[] #[.pointer (some pl)]:=hF' 1 _ rfl
 clear hF'
 refine qc ?_
 refine zaf ?_
 refine qd ?_
 refine pu ?_
 refine za4 rfl og rfl (vs:=#[v,.func (.func 67) #[] #[.pointer (some pl)]]) oh (yaj _ _ hlv hz v pl xss ls hv hp hlen hlens) λs4 v4 w4 hq=>?_
 obtain⟨rfl,sees4,k,rfl,hk⟩:=hq
 refine nm ?_
 refine qo ?_
 refine zad (zbc ⟨rfl,_,resultsC_tmp (t:=4) og _,rfl,sees4,?_⟩)
 simp
end
theorem ycz:Tryz.prog.underlying 38=some (.slice 3):=by kernel_rfl
theorem i_int:∃i0,Tryz.prog.info? 3=some i0/\i0.zero=some (.int .i64 0)/\i0.size=1/\i0.bytes=8:=by
 have h1:(Tryz.prog.info? 3).isSome=true:=by kernel_rfl
 obtain⟨i0,h⟩:=kc2.1 h1;have h2:(Tryz.prog.info? 3).bind (λi=>i.zero)=some (.int .i64 0):=by kernel_rfl
 have h3:(Tryz.prog.info? 3).map (λi=>i.size)=some 1:=by kernel_rfl
 have h4:(Tryz.prog.info? 3).map (λi=>i.bytes)=some 8:=by kernel_rfl
 rw [h] at h2 h3 h4;exact⟨i0,h,oa h2,oa h3,oa h4⟩
def zby(m n:Nat):List Int:=((List.range n).filter λi=>m.testBit i).map λi:Nat=>(i:Int)
def ints(l:List Int):List Value:=l.map λx=>.int .i64 x
def zho(u:Value):Prop:=∃x,u=.int .i64 x
theorem zx4(m n:Nat):zby m (n+1)=zby m n++(if m.testBit n then [(n:Int)] else []):=by
 unfold zby
 rw [kdp,kch,kbt];by_cases h:m.testBit n<;>simp [h]
theorem zgs(m n:Nat):(zby m n).length<=n:=by
 unfold zby
 rw [ka6];exact kak (kbc _ _) od
theorem zpw(l:List Int):(ints l).length=l.length:=by simp [ints]
theorem zx8(l:List Int):∀x∈ints l,zho x:=by intro x hx;obtain⟨y,_,rfl⟩:=kav.1 hx;exact⟨y,rfl⟩
theorem zaw.ints{w:World}{O:Nat->Prop}{e:TypeId}{Pc:Value->Prop}{v:Value}{l:List Int}(h:zaw w O e Pc v (Kp.ints l)):zfp O w v l:=by
 rcases h with ⟨rfl,h⟩|h
 .have:l=[]:=by simpa [Kp.ints] using h
  subst this;exact⟨none,0,rfl,λj x hj=>by simp at hj⟩
 .have h':zaw w O e Pc v (Kp.ints l):=.inr h;obtain⟨g,cap,cur,h1,h2,_⟩:=h;rw [zpw] at h1;refine⟨_,cap,h1,λj x hj=>⟨⟨g,0,none⟩,rfl,h2,?_⟩⟩;obtain⟨g',cap',e1,_,h3⟩:=h'.cell (j:=j) (x:=.int .i64 x) (by simp [Kp.ints,hj]);rw [h1] at e1;injection e1 with e1 _ _
  injection e1 with e1
  injection e1 with e1 _ _
  subst e1;exact h3
theorem zj9(n:Int)(h₀:0<=n)(h₁:n<2 ^ 62):IntKind.i64.wrap n=n:=by rw [IntKind.wrap_i64];omega
section
variable{p:Par}{hst:yp0 p}{i:Nat}{S:zkv p Tryz.prog i}
structure MkI(p:Par)(s:PSt)(w:World)(m n:Nat)(k:Nat)(s':PSt)(a':Go.Act)(w':World)(F:Nat->Value):Prop where
 τ:s'.τ=s.τ
 nn:s'.n=s.n
 O1:∀x,s.O x->s'.O x
 O2:∀x,s'.O x->s.O x\/(w.heap.size<=x/\x<w'.heap.size)
 sees:zay (λx=>s.O x\/p.ro x) w w'
 a:a'=⟨tab 22 F,[]⟩
 f0:F 0=.int .i64 (m:Int)
 f5:zaw w' (λg=>s'.O g/\w.heap.size<=g) 3 zho (F 5) (ints (zby m k))
 f7:F 7=.int .i64 (n:Int)
 f8:F 8=.int .i64 (k:Int)
 le:k<=n
theorem z48(s:PSt)(w:World)(hlv:zar i s)(hz:s.τ.z=0)(hOsz:∀x,s.O x\/p.ro x->x<w.heap.size)(m n:Nat)(hm:m<1000000)(hn:n<60) :
  zbv (jdg p hst Tryz.prog i S) 65 #[.int .i64 (m:Int),.int .i64 (n:Int)] s w (λs' v w'=>s'.τ=s.τ/\s'.n=s.n/\(∀x,s.O x->s'.O x)/\(∀x,s'.O x->s.O x\/(w.heap.size<=x/\x<w'.heap.size))/\zay (λx=>s.O x\/p.ro x) w w'/\
   zaw w' (λg=>s'.O g/\w.heap.size<=g) 3 zho v (ints (zby m n))):=by
 refine zaz Tryz.func65 og rfl 22 og od λF hF'=>?_
 have h0:F 0=.int .i64 (m:Int):=hF' 0 _ rfl
 have h1:F 1=.int .i64 (n:Int):=hF' 1 _ rfl
 clear hF'
 refine qc ?_
 refine qc ?_
 refine zaf (zaf ?_)
 refine qd ?_
 refine qb ?_
 refine zbq (zfs kbu (λx s' a' w'=>∃k F,x=n-k/\MkI p s w m n k s' a' w' F) n ⟨0,_,rfl,⟨rfl,rfl,λ_ h=>h,λ_ h=>.inl h,zay.refl _ _,rfl,by simp [h0],by simp;exact .inl ⟨rfl,rfl⟩,od,od,kb6 _⟩⟩ ?_)
 clear h0 h1
 rintro _ s2 _ w2 ⟨k,F2,rfl,I2⟩
 obtain⟨hτ,hnn,hO1,hO2,sees2,rfl,h0,h5,h7,h8,hk⟩:=I2
 refine qc ?_
 by_cases hkl:k<n
 case neg =>
  have hkl':¬((k:Int)<(n:Int)):=oc
  have hkn:k=n:=oc
  refine zaf ?_;refine cf ?_;refine zih ?_;refine zaf ?_;refine qd ?_;refine qb ?_;refine zbc ⟨rfl,_,resultsC_tmp (t:=4) og _,hτ,hnn,hO1,hO2,sees2,?_⟩;subst hkn;simpa [zci] using h5
 have hkl':((k:Int)<(n:Int)):=oc
 have hlv2:zar i s2:=by unfold zar;rw [hτ];exact hlv
 have hz2:s2.τ.z=0:=by rw [hτ];exact hz
 refine zaf ?_
 refine ct ?_
 refine zap (zaf (zbq (zaf ?_)))
 refine qd ?_
 refine qb ?_
 refine zaf ?_
 have hk0:¬((k:Int)<0):=oc
 have hsh:((m:Int)).fdiv (2 ^ min (k:Int).toNat 64)=((m / 2 ^ k:Nat):Int):=by
  have e1:min (k:Int).toNat 64=k:=by simp;omega
  have e2:(2:Int) ^ k=((2 ^ k:Nat):Int):=od
  rw [e1,e2,kdf _ (keh _)];rfl
 have hdlt:m / 2 ^ k<2 ^ 62:=kcv (Nat.div_le_self _ _) oc
 have hbit:bits .and .i64 ((m / 2 ^ k:Nat):Int) 1=((m / 2 ^ k % 2:Nat):Int):=by have h:=(bits_nat .i64 62 oe zj9 (m / 2 ^ k) 1 hdlt oe).1;rw [show(1:Int)=((1:Nat):Int) from rfl,h,Nat.and_one_is_mod]
 refine qd ?_
 refine pu ?_
 have hbitT:m.testBit k=decide (m / 2 ^ k % 2=1):=Nat.testBit_eq_decide_div_mod_eq
 generalize hd:m / 2 ^ k=d at hsh hdlt hbit hbitT
 have hshr:∀w1:World,(Op.shift .shr .i64 (m:Int) .i64 (k:Int)).run Tryz.prog w1=.ok (.int .i64 (d:Int)) w1:=by intro w1;have hb:IntKind.i64.bits=64:=rfl;unfold Op.shift;simp only [hk0,if_false,hb,hsh,Sem.run_pure]
 have hshe:∀w1:World,(Op.shift .shr .i64 (m:Int) .i64 (k:Int)).events Tryz.prog w1 #[]=#[]:=by intro w1;unfold Op.shift;simp only [hk0,if_false,Sem.events_pure]
 co_applyP zio (.int .i64 (d:Int)) rfl og ?hr ?he ?h
 case hr=>(intro w1;go_simp)
 case he=>(intro w1;simp [go_sem, *])
 refine nm ?_
 refine pu ?_
 refine qb ?_
 have hmk:=zx4 m k
 have hadd:IntKind.i64.wrap ((k:Int)+1)=((k+1:Nat):Int):=by rw [IntKind.wrap_i64];omega
 have hsz2:=sees2.size
 rcases kde d with h01|h01
 .have e1:¬((d:Int) % 2=1):=oc
  rw [hbitT,h01] at hmk;simp only [Nat.zero_ne_one,decide_false,kbd,if_false,kda] at hmk;refine cf ?_;refine zap ?_;refine qd ?_;refine pu ?_;refine zad ⟨_,?_,k+1,_,rfl,⟨hτ,hnn,hO1,hO2,sees2,rfl,by simp [h0],by simp [hmk];exact h5,by simp [h7],od,hkl⟩⟩;show n-(k+1)<n-k;omega
 .have e1:(d:Int) % 2=1:=oc
  rw [hbitT,h01] at hmk;simp only [decide_true,if_true] at hmk;refine ct ?_;refine qd ?_;refine pu ?_;refine zk1 hlv2 hz2 (.cells #[.int .i64 (k:Int)] 3) (λb=>.slice (some ⟨b,0,none⟩) 1 1) rfl og ?_ λb w3 hb1 hb2 hb3 s3=>?_
  .intro w1;exact⟨by go_simp,by simp [go_sem, *]⟩
  refine nm ?_;have hc3:w3.cell? ⟨b,0,none⟩=some (.int .i64 (k:Int)):=by simp [World.cell?,hb3]
  have hrow3:zaw w3 (λg=>s2.O g/\w.heap.size<=g) 3 zho (F2 5) (ints (zby m k)):=h5.keep λq _ hq hlt=>⟨hq,s3.heap q hlt (.inl hq.1)⟩;have hlen:=zgs m k;obtain⟨i0,t1,t2,t3,t4⟩:=i_int
  refine zkd (s:=⟨s2.n,s2.τ,λx=>s2.O x\/x=b⟩) hlv2 hz2 (.tmp 16) (.tmp 18) 38 3 i0 (.int .i64 0) 8 zho ycz t1 t2 t3 t4 rfl ⟨_,rfl⟩ rfl og rfl (F2 5) (ints (zby m k)) oh ⟨b,0,none⟩ 1 (.int .i64 (k:Int)) oh
   (λg=>s2.O g/\w.heap.size<=g) (λq hq=>.inl hq.1) hrow3 ?_ (.inl (.inr rfl)) hc3 rfl ⟨_,rfl⟩ (zx8 _) ?_ ?_ λv4 w4 O4 g1 g2 g3 s4=>?_
  .intro q hq hr;have h1:=(h5.blk hq).1.2;have h2:=hOsz q (.inr hr);omega
  .rw [zpw];simp only [maxLen];omega
  .rw [zpw];omega
  refine nm ?_;refine pu ?_;have s3':zay (λx=>s.O x\/p.ro x) w2 w3:=s3.mono λx hx=>hx.imp (hO1 x) id;have hsize34:w3.heap.size<=w4.heap.size:=s4.size;have hsize23:w2.heap.size<=w3.heap.size:=s3.size;refine zad ?_;refine qd ?_;refine pu ?_;refine zad ⟨_,?_,k+1,_,rfl,⟨hτ,hnn,λx hx=>g1 x (.inl (hO1 x hx)),λx hx=>?_,?_,rfl,by simp [h0],?_,by simp [h7],od,hkl⟩⟩
  .show n-(k+1)<n-k;omega
  .rcases g2 x hx with (h|h)|h
   .rcases hO2 x h with h|h
    .exact .inl h
    .exact .inr ⟨h.1,oc⟩
   .subst h;exact .inr ⟨oc,oc⟩
   .exact .inr ⟨oc,h.2⟩
  .refine(sees2.trans s3').trans (s4.mono λx hx=>?_);rcases hx with hx|hx
   .refine .inl ⟨.inl (hO1 x hx),λe=>?_⟩;have h1:=(h5.blk e).1.2;have h2:=hOsz x (.inl hx);omega
   .exact .inr hx
  .have h6:zaw w4 (λg=>O4 g/\w.heap.size<=g) 3 zho v4 (ints (zby m (k+1))):=by
     rw [hmk];have e:ints (zby m k++[(k:Int)])=ints (zby m k)++[.int .i64 (k:Int)]:=by simp [ints]
     rw [e];refine g3.keep λq _ hq _=>⟨?_,rfl⟩;rcases hq with hq|hq
     .exact⟨g1 q (.inl hq.1),hq.2⟩
     .exact⟨hq.2,oc⟩
   simpa using h6
end
section
variable{p:Par}{hst:yp0 p}{i:Nat}{S:zkv p Tryz.prog i}
def yfg(s:PSt)(wd:Wd):Prop :=
 wd.word<2147483648/\wd.L=false/\((s.τ.r=.out/\wd.S=false/\(wd.c=0\/wd.W=true))\/(s.τ.r=.unl/\wd.S=false/\wd.W=false/\0<wd.c/\s.n.2=wd.word)\/(s.τ.r=.hand/\wd.S=true))
def z8x(p:Par)(s:PSt)(w:World)(s':PSt)(w':World):Prop:=s'.τ={ s.τ with r:=.out }/\s'.O=s.O/\zay (λx=>s.O x\/p.ro x) w w'
def Wd.idle(x:Wd):Prop:=x.c=0\/x.L=true\/x.W=true\/x.S=true
structure UlI(p:Par)(s:PSt)(w:World)(x:Nat)(s':PSt)(a:Go.Act)(w':World)(wd:Wd)(F:Nat->Value):Prop where
 n:x=s'.n.1
 a:a=⟨tab 43 F,[]⟩
 f0:F 0=.pointer (some (muA p.Mu))
 f4:F 4=.int .i32 (wd.word:Int)
 lt:wd.word<2147483648
 O:s'.O=s.O
 sees:zay (λx=>s.O x\/p.ro x) w w'
 τ:(s'.τ={ s.τ with r:=.out }/\wd.idle)\/(s'.τ={ s.τ with r:=.unl }/\¬wd.idle/\s'.n.2=wd.word)
theorem Wd.eq_of_word{x y:Wd}(h:x.word=y.word):x.L=y.L/\x.W=y.W/\x.S=y.S/\x.c=y.c:=by obtain⟨L,W,S,c,T⟩:=x;obtain⟨L',W',S',c',T'⟩:=y;simp only [Wd.word] at h;cases L<;>cases W<;>cases S<;>cases L'<;>cases W'<;>cases S'<;>simp at h |-<;>omega
set_option maxHeartbeats 4000000 in
theorem zq1(s:PSt)(w:World)(wd:Wd)(hi:0<i)(hd:s.τ.d=1)(hz:s.τ.z=0)(hh:s.τ.hd=false)(hcap:8*(p.cap-p.b)+8<2147483632)(hp:yfg s wd) :
  zbv (jdg p hst Tryz.prog i S) 169 #[.pointer (some (muA p.Mu)),.int .i32 (wd.word:Int)] s w (λs' _ w'=>z8x p s w s' w'):=by
 obtain⟨hlt,hL,hr⟩:=hp
 refine zaz Tryz.func169 og rfl 43 og od λF hF=>?_
 have h0:F 0=.pointer (some (muA p.Mu)):=hF 0 _ rfl
 have h1:F 1=.int .i32 (wd.word:Int):=hF 1 _ rfl
 clear hF
 have e1:IntKind.i32.wrap ((wd.word:Int)+1)=(({ wd with L:=true }:Wd).word:Int):=by
  have:(wd.word:Int)+1=(({ wd with L:=true }:Wd).word:Int):=by simp [Wd.word,hL];omega
  rw [this];refine zb5 _ oc ?_;have:wd.word+1<2147483648:=by
   have:wd.word % 2=0:=by simp only [Wd.word,hL];simp;omega
   omega
  omega
 have e1lt:({ wd with L:=true }:Wd).word<2147483648:=by
  have h2:wd.word % 2=0:=by simp only [Wd.word,hL];simp;omega
  have h3:({ wd with L:=true }:Wd).word=wd.word+1:=by simp [Wd.word,hL];omega
  omega
 have e2:=z9b _ e1lt
 simp only [kdq] at e2
 refine zaf (zaf ?_)
 refine qa ?_
 refine qg ?_
 refine zap ?_
 refine zaf ?_
 have e3:=z9a wd hlt
 cases hS:wd.S with
 | true =>
   rw [hS] at e3;simp at e3;have hr':s.τ.r=.hand:=by rcases hr with ⟨_,h,_⟩|⟨_,h,_⟩|⟨h,_⟩<;>first|exact h|(rw [hS] at h;cases h)
   refine qi ?_;refine cf ?_;refine qa ?_;refine zl7 ⟨hi,hz,hh,by rw [hd];exact kca,hcap⟩ (.inr hr') rfl og rfl zdl.f zdl.name zdl.body zdl.next zdl.find (by simp [Act.eval,msA,muA, *]) λn1 w1 l1 s1=>zad ?_;exact⟨rfl,_,resultsC_none og _,rfl,rfl,s1⟩
 | false =>
   rw [hS] at e3;simp at e3;refine qi ?_;refine ct ?_;refine zaf ?_;refine qd ?_;refine qb ?_;refine zbq ?_;refine zfs (r:=(· < ·)) kbu (λx s' a w'=>∃wd F,UlI p s w x s' a w' wd F) s.n.1 ⟨wd,_,rfl,rfl,by simp [h0],od,hlt,rfl,zay.refl _ _,?_⟩ ?_
   .rcases hr with ⟨h1,_,h2⟩|⟨h1,_,h2,h3,h4⟩|⟨_,h⟩
    .exact .inl ⟨by rw [<-h1],h2.imp id λh=>.inr (.inl h)⟩
    .exact .inr ⟨by rw [<-h1],by rintro(h|h|h|h)<;>simp_all,h4⟩
    .rw [hS] at h;cases h
   .rintro x s1 a1 w1 ⟨wd1,F1,⟨rfl,rfl,f0,f4,lt,hO,hsees,hτ⟩⟩;refine zbq ?_;refine zaf (zaf ?_);have g7:=z89 wd1 lt;have gs:=z7d wd1;have done:wd1.idle->∀F',zi7 Tryz.prog Tryz.f169 (λs' _ w'=>z8x p s w s' w') .ret s1 ⟨tab 43 F',[]⟩ w1:=λhid F'=>by
      refine⟨rfl,_,resultsC_none og _,?_,hO,hsees⟩;rcases hτ with ⟨h,_⟩|⟨_,h,_⟩
      .exact h
      .exact absurd hid h
    by_cases hc:wd1.c=0
    .rw [hc] at gs;simp at gs;refine qa ?_;refine qf ?_;refine qj ?_;exact zbc (done (.inl hc) _)
    .obtain⟨q,hq⟩:∃q:Nat,q=wd1.L.toNat+2*wd1.W.toNat+4*wd1.S.toNat:=⟨_,rfl⟩;have g7':bits .and .i32 (wd1.word:Int) 7=(q:Int):=by rw [g7,hq];simp
     have gs':¬((wd1.c:Int)=0):=oc
     clear g7;by_cases hq0:q=0
     .subst hq0;simp only [kcr] at g7';have hfl:wd1.L=false/\wd1.W=false/\wd1.S=false:=by
        cases h1:wd1.L<;>cases h2:wd1.W<;>cases h3:wd1.S<;>simp [h1,h2,h3] at hq |-
      clear hq;have hnid:¬wd1.idle:=by
       rintro(h|h|h|h)
       .exact hc h
       .rw [hfl.1] at h;cases h
       .rw [hfl.2.1] at h;cases h
       .rw [hfl.2.2] at h;cases h
      have hτ':s1.τ={ s.τ with r:=.unl }/\s1.n.2=wd1.word:=by
       rcases hτ with ⟨_,h⟩|⟨h1,_,h2⟩
       .exact absurd h hnid
       .exact⟨h1,h2⟩
      have m1w:IntKind.i32.wrap ((wd1.word:Int)-8)=(({ wd1 with c:=wd1.c-1 }:Wd).word:Int):=by
       have m1:(wd1.word:Int)-8=(({ wd1 with c:=wd1.c-1 }:Wd).word:Int):=by simp only [Wd.word];omega
       rw [m1];refine zb5 _ oc oc
      have m2:bits .or .i32 (({ wd1 with c:=wd1.c-1 }:Wd).word:Int) 2=(({ wd1 with c:=wd1.c-1,W:=true }:Wd).word:Int):=by
       refine z7c _ ?_;have:({ wd1 with c:=wd1.c-1 }:Wd).word<=wd1.word:=by simp only [Wd.word];omega
       omega
      have nw:({ wd1 with c:=wd1.c-1,W:=true }:Wd).word=2+8*(wd1.c-1):=by simp only [Wd.word,hfl.1,hfl.2.2];simp
      have hfl':Hid (wd1.L=false/\wd1.W=false/\wd1.S=false):=⟨hfl⟩;clear hfl;generalize hm1:({ wd1 with c:=wd1.c-1 }:Wd).word=k1 at m1w m2;rw [nw] at m2;clear nw hm1;refine qa ?_;refine qe ?_;refine qg ?_;refine zap ?_;refine qh ?_;refine qb ?_;refine zaf (zaf ?_);refine qa ?_;refine qo ?_;have hfl:=hfl'.out
      have A1:z69 p i s1:=⟨hi,by rw [hτ'.1];exact hz,by rw [hτ'.1];exact hh,by rw [hτ'.1];show 0<s.τ.d;rw [hd];exact kca,hcap⟩;refine zpn A1 rfl og rfl zcw.f zcw.name zcw.body zcw.next zcw.find wd1.word (2+8*(wd1.c-1)) oh oh oh (λwd2 n hL2 hn2 he2=>?_) (λn2 w2 l2 hm s2=>?_)
      .obtain⟨k1,k2,k3,k4⟩:=Wd.eq_of_word he2;obtain⟨L,W,S,c,T⟩:=wd2;simp only at k1 k2 k3 k4;rw [hfl.1] at k1;rw [hfl.2.1] at k2;rw [hfl.2.2] at k3;subst k1 k2 k3;obtain⟨c',rfl⟩:∃c',c=c'+1:=⟨c-1,oc⟩;refine⟨.post,s1.τ.k,⟨false,true,false,c',T⟩,by rw [hτ'.1];exact .unlPost c' T,by rw [hτ'.1];rfl,?_,rfl,λn2 w2 l2 _ s2=>zad ?_⟩
       .simp only [Wd.word];rw [<-k4];simp
       refine nm ?_;refine ct ?_;refine qh ?_;refine zl7 ⟨hi,by rw [hτ'.1];exact hz,by rw [hτ'.1];exact hh,by rw [hτ'.1];show 0<s.τ.d;rw [hd];exact kca,hcap⟩ (.inl rfl) rfl og rfl zdl.f zdl.name zdl.body zdl.next zdl.find (by simp [Act.eval,msA,muA, *]) λn3 w3 l3 s3=>zad ?_;have t2:=s2;have t3:=s3;simp only [hO] at t2 t3
       refine zbc ⟨rfl,_,resultsC_none og _,?_,hO,(hsees.trans t2).trans t3⟩;rw [hτ'.1]
      .refine zad ?_;refine nm ?_;refine cf ?_;refine zap ?_;refine qa ?_;refine z0k (s:=⟨n2,s1.τ,s1.O⟩) ⟨A1.hi,A1.z,A1.hh,A1.d,hcap⟩ rfl og ?_ (λwd3 n hL3 hn3 hlt3=>?_)
       .intro w4 st sm hMu;have hc:=hMu.cellSt;refine⟨run_eq_of λK hK=>ou,?_⟩;unfold listed;simp [go_sem, *];exact znz zrl _ _
       .by_cases hid:wd3.idle
        .refine⟨.out,.inr ⟨by simp [hτ'.1],?_⟩,λn' w' l4 h4 s4=>?_⟩
         .rw [show(s1.τ).r=.unl by rw [hτ'.1]];obtain⟨L,W,S,c,T⟩:=wd3;exact .unlOut L W S c T hid
         .refine nm ?_;refine qb ?_;refine⟨n'.1,?_,wd3,_,rfl,rfl,by simp [f0],od,kd1 hlt3 oe,hO,?_,.inl ⟨by rw [hτ'.1],hid⟩⟩
          .have:=hm hτ'.2;have:=l4.1;simp only at this;omega
          .have h2:=s2;have h4:=s4;simp only [hO] at h2 h4;exact(hsees.trans h2).trans h4
        .refine⟨s1.τ.r,.inl rfl,λn' w' l4 h4 s4=>?_⟩;refine qm ?_;refine⟨n'.1,?_,wd3,_,rfl,rfl,by simp [f0],od,kd1 hlt3 oe,hO,?_,.inr ⟨by rw [hτ'.1],hid,h4⟩⟩
         .have:=hm hτ'.2;have:=l4.1;simp only at this;omega
         .have h2:=s2;have h4:=s4;simp only [hO] at h2 h4;exact(hsees.trans h2).trans h4
     .have hq1:¬((q:Int)=0):=oc
      have hid:wd1.idle:=by refine Classical.byContradiction λhn=>hq0 ?_;unfold Wd.idle at hn;cases h1:wd1.L<;>cases h2:wd1.W<;>cases h3:wd1.S<;>simp [h1,h2,h3] at hn hq |-<;>omega
      clear hq;refine qa ?_;refine qe ?_;refine qj ?_;exact zbc (done hid _)
end
section
variable{p:Par}{hst:yp0 p}{i:Nat}{S:zkv p Tryz.prog i}
structure zo3(p:Par)(s:PSt)(w:World)(c':Nat)(G':Nat->Prop)(s':PSt)(w':World):Prop where
 τ:s'.τ={ s.τ with r:=.out,hd:=false,c:=c' }
 O:s'.O=λx=>s.O x/\¬G' x
 sees:zay (λx=>(s.O x/\¬G' x)\/p.ro x) w w'
structure znd(p:Par)(i:Nat)(s:PSt)(w:World)(c':Nat)(G':Nat->Prop):Prop where
 hi:0<i
 r:s.τ.r=.owner
 d:s.τ.d=0
 z:s.τ.z=0
 hd:s.τ.hd=true
 G:∀x,G' x->s.O x/\x<w.heap.size
 gd:p.Gd G' (λj=>if j=i then c' else s.τ.cc j) w
 cap:8*(p.cap-p.b)+8<2147483632
set_option maxHeartbeats 4000000 in
theorem z09(s:PSt)(w:World)(c':Nat)(G':Nat->Prop)(hp:znd p i s w c' G') :
  zbv (jdg p hst Tryz.prog i S) 140 #[.pointer (some (muA p.Mu))] s w (λs' _ w'=>zo3 p s w c' G' s' w'):=by
 obtain⟨hi,hr,hd,hz,hh,hG,hgd,hcap⟩:=hp
 refine zaz Tryz.func140 og rfl 21 og od λF hF=>?_
 have h0:F 0=.pointer (some (muA p.Mu)):=hF 0 _ rfl
 clear hF
 refine zaf (zdm (t:=true) rfl ?_)
 simp only [if_true]
 refine qh ?_
 refine zrv (lv hi hz) rfl og (λw1 st sm st' sm' hMu _=>?_) (λv n1 w1 l1 s1=>zad ?_)
 .have hc:=hMu.cellSt;refine⟨_,run_eq_of λK hK=>ou,?_⟩;unfold listed;simp [go_sem, *];exact znz z4w _ _
 refine nm ?_
 refine zaf ?_
 refine qd ?_
 (co_applyP zdf ?hl1 (.pointer (some (muA p.Mu))) rfl og ?hr1 ?h1;(case hl1=>exact lv hi hz);(case hr1=>(intro w1 st sm st' sm' hMu _;have hc:=hMu.cellSt;have hu:=z7e hc;exact⟨run_eq_of λK hK=>ou,listed_nil (by simp [go_sem,zq0 hc, *])⟩));refine nm ?_)
 intro n2 w2 l2 s2
 have t2:=s1.trans s2
 refine z43 rfl og rfl znm.f znm.name znm.body znm.next znm.find oh hi hz hd hh c' G' (λx hx=>⟨(hG x hx).1,kaf (hG x hx).2 t2.size⟩) (hst _ _ _ _ (λx hx=>t2.heap x (hG x hx).2 (.inl (hG x hx).1)) hgd) λn3 w3 l3 s3=>zad ?_
 refine nm ?_
 refine rg ?_
 refine zcy (lv hi hz) .disable (.inl rfl) rfl og rfl ze2.f ze2.name ze2.body ze2.next ze2.find 1 (by rw [hd];rfl) λn4 w4 l4 s4=>zad ?_
 refine nm ?_
 refine qh ?_
 have t3:zay (λx=>(s.O x/\¬G' x)\/p.ro x) w w4:=((t2.trans s3).mono λx hx=>hx.imp And.left id).trans s4
 have A:z69 p i ⟨n4,{ s.τ with hd:=false,c:=c',d:=1 },λx=>s.O x/\¬G' x⟩:=⟨hi,hz,rfl,kca,hcap⟩
 refine zx2 A rfl og rfl zls.f zls.name zls.body zls.next zls.find (-1) oh rfl λwd n hL hn hlt=>?_
 have hLt:wd.L=true:=by
  have h1:=hL.own;have h2:0<n .owner:=by simpa [hr] using hn
  cases h:wd.L with
  | true=>rfl
  | false=>rw [h] at h1;simp at h1;omega
 have hword:IntKind.i32.wrap ((wd.word:Int) + -1)=(({ wd with L:=false }:Wd).word:Int):=by
  have m1:(wd.word:Int) + -1=(({ wd with L:=false }:Wd).word:Int):=by simp only [Wd.word,hLt,kdq,kck];omega
  rw [m1];exact zb5 _ oc oc
 have hlt':({ wd with L:=false }:Wd).word<2147483648:=by
  have:({ wd with L:=false }:Wd).word<=wd.word:=by simp only [Wd.word,hLt,kdq,kck];omega
  omega
 have key:∃r',zc9 .owner r' wd { wd with L:=false }/\((r'=.out/\wd.S=false/\(wd.c=0\/wd.W=true))\/(r'=.unl/\wd.S=false/\wd.W=false/\0<wd.c)\/(r'=.hand/\wd.S=true)):=by
  obtain⟨L,W,S,c,T⟩:=wd;cases S with
  | true=>exact⟨.hand,.unlockH L W c T,.inr (.inr ⟨rfl,rfl⟩)⟩
  | false =>
    by_cases h:c=0\/W=true
    .exact⟨.out,.unlockO L W c T h,.inl ⟨rfl,rfl,h⟩⟩
    .refine⟨.unl,.unlockU L W c T,.inr (.inl ⟨rfl,rfl,?_,?_⟩)⟩
     .cases W<;>simp_all
     .simp only;omega
 obtain⟨r',hm,hr'⟩:=key
 refine⟨r',s.τ.k,{ wd with L:=false },by rw [show s.τ.r=.owner from hr];exact hm,by rw [if_neg (by rw [show s.τ.r=.owner from hr];simp)];rfl,hword.symm,rfl,λn5 w5 l5 h5 s5=>?_⟩
 generalize hwd:({ wd with L:=false }:Wd)=wd' at *
 have hr2:Hid (yfg ⟨n5,{ s.τ with hd:=false,c:=c',d:=1,r:=r' },λx=>s.O x/\¬G' x⟩ wd'):=⟨by
  refine⟨hlt',by rw [<-hwd],?_⟩;rcases hr' with ⟨e1,e2,e3⟩|⟨e1,e2,e3,e4⟩|⟨e1,e2⟩
  .exact .inl ⟨e1,by rw [<-hwd];exact e2,by rw [<-hwd];exact e3⟩
  .exact .inr (.inl ⟨e1,by rw [<-hwd];exact e2,by rw [<-hwd];exact e3,by rw [<-hwd];exact e4,h5⟩)
  .exact .inr (.inr ⟨e1,by rw [<-hwd];exact e2⟩)⟩
 have hz0:Hid (wd'.word=0->r'=.out):=⟨λe=>by
  rcases hr' with ⟨e1,e2,e3⟩|⟨e1,e2,e3,e4⟩|⟨e1,e2⟩
  .exact e1
  .exfalso;rw [<-hwd] at e;simp [Wd.word,e2,e3] at e;omega
  .exfalso;rw [<-hwd] at e;simp [Wd.word,e2] at e⟩
 clear hr' hwd hword hLt hL hn hm hlt
 refine qm ?_
 refine zfr (λs' a' w'=>∃F,a'=⟨tab 21 F,[]⟩/\s'.τ={ s.τ with r:=.out,hd:=false,c:=c',d:=1 }/\s'.O=(λx=>s.O x/\¬G' x)/\zay (λx=>(s.O x/\¬G' x)\/p.ro x) w w') ?_ ?_
 .refine zaf ?_;by_cases e:wd'.word=0
  .have ei:(wd'.word:Int)=0:=oc
   refine qd ?_;refine qg ?_;refine zap ⟨_,rfl,?_,rfl,t3.trans s5⟩;rw [hz0.out e]
  .have ei:¬(wd'.word:Int)=0:=oc
   refine qd ?_;refine qj ?_;refine qd ?_;refine pu ?_;refine za4 rfl og rfl (vs:=#[.pointer (some (muA p.Mu)),.int .i32 (wd'.word:Int)]) oh (zq1 _ _ wd' hi rfl hz rfl hcap hr2.out) λs6 v6 w6 hp=>zad ?_;obtain⟨p1,p2,p3⟩:=hp;refine nm ?_;exact⟨_,rfl,p1,p2,(t3.trans s5).trans p3⟩
 .rintro s7 a7 w7 ⟨F7,rfl,hτ7,hO7,hs7⟩;obtain⟨n7,τ7,O7⟩:=s7;subst hτ7 hO7;refine rg ?_;refine zcy (lv hi hz) .enable (.inr rfl) rfl og rfl zlq.f zlq.name zlq.body zlq.next zlq.find 0 og λn8 w8 l8 s8=>zad ?_;refine⟨rfl,_,resultsC_none og _,?_,rfl,hs7.trans s8⟩;rw [<-hd]
set_option maxHeartbeats 1000000 in
theorem z30(s:PSt)(w:World)(c':Nat)(G':Nat->Prop)(hp:znd p i s w c' G') :
  zbv (jdg p hst Tryz.prog i S) 70 #[.pointer (some (muA p.Mu))] s w (λs' _ w'=>zo3 p s w c' G' s' w'):=by
 refine zaz Tryz.func70 og rfl 6 og od λF hF=>?_
 have h0:F 0=.pointer (some (muA p.Mu)):=hF 0 _ rfl
 clear hF
 refine qa ?_
 refine za4 rfl og rfl (vs:=#[.pointer (some (muA p.Mu))]) oh (z09 _ _ c' G' hp) λs6 v6 w6 hq=>zad ?_
 exact⟨rfl,_,resultsC_none og _,hq⟩
end
end Go.Kp
