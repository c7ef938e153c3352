/- What all laws about sales rest on, beside any goroutines. Conditions: none. -/
import Derived.Test.YtfgciihkmemdlaaGreatDoorZf
namespace Go.Kp
open Go Go.Conc Go.ConcM Go.Proofs
section
variable{p:Par}{hst:yp0 p}{i:Nat}{S:zkv p Tryz.prog i}
set_option maxHeartbeats 8000000 in
theorem lsB{s:PSt}{w:World}(hi:0<i)(hr:s.τ.r=.out)(hk:1<=s.τ.k)(hd:s.τ.d=1)(hz:s.τ.z=0)(hh:s.τ.hd=false)(hcap:8*(p.cap-p.b)+8<2147483632){wd:Wd}{aw sv:Bool}{ws:Int}{it:Nat}{n1':Nat×Nat}{Q:Exit->PSt->Go.Act->World->Prop}{F2:Nat->Value}{w2:World}(hN:∀s' a' w',yft p s w n1'.1 it s' a' w'->Q .normal s' a' w')(hB:∀s' a' w',Took p s w s' a' w'->Q (.exit 0) s' a' w')(hit:it<=4)(hlt:wd.word<2147483632)(hn:n1'.2=wd.word)(haw:aw=true->wd.W=true/\wd.S=false)(hsv:sv=true->aw=true)(r2:Lr p F2 wd aw sv ws it)(hs2:zay (λx=>s.O x\/p.ro x) w w2) :
  PtW p hst i S [1] Q ⟨n1',z34 s aw,s.O⟩ ⟨tab 139 F2,[]⟩ w2:=by
 refine yfr rfl ?_
 obtain⟨f0,f2,f3,f4,f5,f6⟩:=r2
 refine zaf ?_
 refine qd ?_
 refine qb ?_
 refine zfr (λs' a' w'=>∃F,a'=⟨tab 139 F,[]⟩/\Lr p F wd aw sv ws it/\F 7=.int .i32 (({ wd with L:=if wd.S then wd.L else true }:Wd).word:Int)/\s'=⟨n1',z34 s aw,s.O⟩/\zay (λx=>s.O x\/p.ro x) w w') ?_ ?_
 .refine zaf ?_;rcases ka1 wd.S with hS|hS
  .have e4:bits .and .i32 (wd.word:Int) 4=4:=by rw [z9a wd oc,hS];rfl
   have hSh:Hid (wd.S=true):=⟨hS⟩;clear hS;refine qi ?_;refine cf ?_;have eW:({ wd with L:=if wd.S then wd.L else true }:Wd).word=wd.word:=by simp only [Wd.word,hSh.out,if_true]
   exact zap ⟨_,rfl,⟨by simp [f0],by simp [f2],by simp [f3],by simp [f4],by simp [f5],by simp [f6]⟩,by rw [eW];simp,rfl,hs2⟩
  .have e4:bits .and .i32 (wd.word:Int) 4=0:=by rw [z9a wd oc,hS];rfl
   have hSh:Hid (wd.S=false):=⟨hS⟩;clear hS;have e1:=yfz wd oc;refine qi ?_;refine ct ?_;refine qi ?_;have eW:({ wd with L:=if wd.S then wd.L else true }:Wd).word=({ wd with L:=true }:Wd).word:=by simp only [Wd.word,hSh.out,kbd,if_false]
   exact⟨_,rfl,⟨by simp [f0],by simp [f2],by simp [f3],by simp [f4],by simp [f5],by simp [f6]⟩,by rw [eW];simp,rfl,hs2⟩
 rintro _ _ w3 ⟨F3,rfl,⟨f0,f2,f3,f4,f5,f6⟩,f7,rfl,hs3⟩
 clear hs2
 obtain⟨W1,hW1⟩:∃W1,W1=({ wd with L:=if wd.S then wd.L else true }:Wd):=⟨_,rfl⟩
 have hW1lt:Hid (W1.word<=wd.word+1):=⟨by rw [hW1];unfold Wd.word;cases wd.S<;>cases wd.L<;>simp<;>omega⟩
 rw [<-hW1] at f7
 have hW1h:=Hid.mk hW1
 clear hW1
 refine zfr (λs' a' w'=>∃F,a'=⟨tab 139 F,[]⟩/\Lr p F wd aw sv ws it/\F 7=.int .i32 (({ W1 with c:=if wd.L||wd.S then wd.c+1 else wd.c }:Wd).word:Int)/\s'=⟨n1',z34 s aw,s.O⟩/\zay (λx=>s.O x\/p.ro x) w w') ?_ ?_
 .refine zaf ?_;have hc1:Hid (W1.c=wd.c):=⟨by rw [hW1h.out]⟩;by_cases hLS:(wd.L||wd.S)=true
  .obtain⟨v,e5,hv⟩:∃v:Int,bits .and .i32 (wd.word:Int) 5=v/\¬v=0:=⟨_,yfo wd oc,by cases h1:wd.L<;>cases h2:wd.S<;>simp [h1,h2] at hLS |-⟩;have e8:IntKind.i32.wrap ((W1.word:Int)+8)=(({ W1 with c:=W1.c+1 }:Wd).word:Int):=by
     have:=hW1lt.out;rw [yfx];refine zb5 _ oc ?_;have:({ W1 with c:=W1.c+1 }:Wd).word=W1.word+8:=by simp only [Wd.word];omega
     omega
   have hLSh:=Hid.mk hLS;clear hLS;refine qi ?_;refine ct ?_;refine qi ?_;exact⟨_,rfl,⟨by simp [f0],by simp [f2],by simp [f3],by simp [f4],by simp [f5],by simp [f6]⟩,by simp [hLSh.out,<-hc1.out],rfl,hs3⟩
  .have e5:bits .and .i32 (wd.word:Int) 5=0:=by rw [yfo wd oc];cases h1:wd.L<;>cases h2:wd.S<;>simp [h1,h2] at hLS |-
   have hLSh:=Hid.mk hLS;clear hLS;refine qi ?_;refine cf ?_;exact zap ⟨_,rfl,⟨by simp [f0],by simp [f2],by simp [f3],by simp [f4],by simp [f5],by simp [f6]⟩,by simp only [hLSh.out,<-hc1.out];simp [f7],rfl,hs3⟩
 rintro _ _ w4 ⟨F4,rfl,⟨f0,f2,f3,f4,f5,f6⟩,f7,rfl,hs4⟩
 clear hs3
 obtain⟨W2,hW2⟩:∃W2,W2=({ W1 with c:=if wd.L||wd.S then wd.c+1 else wd.c }:Wd):=⟨_,rfl⟩
 have hW2lt:Hid (W2.word<=wd.word+9):=⟨by
  have h1:=hW1lt.out;have h2:W1.c=wd.c:=by rw [hW1h.out]
  have h3:W2.word<=W1.word+8:=by rw [hW2];simp only [Wd.word];rw [h2];split<;>omega
  omega⟩
 rw [<-hW2] at f7
 have hW2h:=Hid.mk hW2
 clear hW2
 refine zfr (λs' a' w'=>∃F,a'=⟨tab 139 F,[]⟩/\Lr p F wd aw sv ws it/\F 7=.int .i32 (({ W2 with S:=wd.S||(sv&&wd.L) }:Wd).word:Int)/\s'=⟨n1',z34 s aw,s.O⟩/\zay (λx=>s.O x\/p.ro x) w w') ?_ ?_
 .refine zaf ?_;have hS2:Hid (W2.S=wd.S):=⟨by rw [hW2h.out];show W1.S=wd.S;rw [hW1h.out]⟩;have e4:bits .or .i32 (W2.word:Int) 4=(({ W2 with S:=true }:Wd).word:Int):=yfy _ (by have:=hW2lt.out;omega);cases sv with
  | false =>refine qd ?_;refine qf ?_;refine qg ?_;exact zap ⟨_,rfl,⟨by simp [f0],by simp [f2],by simp [f3],by simp [f4],by simp [f5],by simp [f6]⟩,by simp only [Bool.false_and,Bool.or_false,<-hS2.out];simp [f7],rfl,hs4⟩
  | true =>
    rcases ka1 wd.L with hL|hL
    rotate_left
    .have e1:bits .and .i32 (wd.word:Int) 1=0:=by rw [z9b wd oc,hL];rfl
     have hLh:=Hid.mk hL;clear hL;refine qd ?_;refine qe ?_;refine qg ?_;exact zap ⟨_,rfl,⟨by simp [f0],by simp [f2],by simp [f3],by simp [f4],by simp [f5],by simp [f6]⟩,by simp only [hLh.out,Bool.and_false,Bool.or_false,<-hS2.out];simp [f7],rfl,hs4⟩
    .have e1:bits .and .i32 (wd.word:Int) 1=1:=by rw [z9b wd oc,hL];rfl
     have hLh:=Hid.mk hL;clear hL;refine qd ?_;refine qe ?_;refine qj ?_;refine qi ?_;exact⟨_,rfl,⟨by simp [f0],by simp [f2],by simp [f3],by simp [f4],by simp [f5],by simp [f6]⟩,by simp [hLh.out],rfl,hs4⟩
 rintro _ _ w5 ⟨F5,rfl,⟨f0,f2,f3,f4,f5,f6⟩,f7,rfl,hs5⟩
 clear hs4
 obtain⟨W3,hW3⟩:∃W3,W3=({ W2 with S:=wd.S||(sv&&wd.L) }:Wd):=⟨_,rfl⟩
 have hW3lt:Hid (W3.word<=wd.word+13):=⟨by
  have h1:=hW2lt.out;have h3:W3.word<=W2.word+4:=by
   rw [hW3];simp only [Wd.word];have:(wd.S||(sv&&wd.L)).toNat<=1:=by cases (wd.S||(sv&&wd.L))<;>simp
   have h4:W2.S=wd.S:=by rw [hW2h.out];show W1.S=wd.S;rw [hW1h.out]
   omega
  omega⟩
 rw [<-hW3] at f7
 have hW3h:=Hid.mk hW3
 clear hW3
 refine zfr (λs' a' w'=>∃F,a'=⟨tab 139 F,[]⟩/\Lr p F wd aw sv ws it/\F 7=.int .i32 (({ W3 with W:=if aw then false else wd.W }:Wd).word:Int)/\s'=⟨n1',z34 s aw,s.O⟩/\zay (λx=>s.O x\/p.ro x) w w') ?_ ?_
 .refine zaf ?_;have hWW:Hid (W3.W=wd.W):=⟨by rw [hW3h.out];show W2.W=wd.W;rw [hW2h.out];show W1.W=wd.W;rw [hW1h.out]⟩;cases aw with
  | false =>refine rg ?_;refine qg ?_;exact zap ⟨_,rfl,⟨by simp [f0],by simp [f2],by simp [f3],by simp [f4],by simp [f5],by simp [f6]⟩,by simp only [<-hWW.out];simp [f7],rfl,hs5⟩
  | true =>
    have hWt:Hid (wd.W=true):=⟨(haw rfl).1⟩;have e2:bits .and .i32 (W3.word:Int) 2=2:=by rw [zy1 _ (by have:=hW3lt.out;omega),hWW.out,hWt.out];rfl
    have e3:bits .andNot .i32 (W3.word:Int) 2=(({ W3 with W:=false }:Wd).word:Int):=yfu _ (by have:=hW3lt.out;omega);refine rg ?_;refine qj ?_;refine zaf (zaf ?_);refine qi ?_;refine cf ?_;refine zap ?_;refine qi ?_;exact⟨_,rfl,⟨by simp [f0],by simp [f2],by simp [f3],by simp [f4],by simp [f5],by simp [f6]⟩,od,rfl,hs5⟩
 rintro _ _ w6 ⟨F6,rfl,⟨f0,f2,f3,f4,f5,f6⟩,f7,rfl,hs6⟩
 clear hs5
 obtain⟨W4,hW4⟩:∃W4,W4=({ W3 with W:=if aw then false else wd.W }:Wd):=⟨_,rfl⟩
 rw [<-hW4] at f7
 have hw4:Hid (W4.word=(⟨if wd.S then wd.L else true,if aw then false else wd.W,wd.S||(sv&&wd.L),if wd.L||wd.S then wd.c+1 else wd.c,0⟩:Wd).word):=⟨by simp only [hW4,hW3h.out,hW2h.out,hW1h.out,Wd.word]⟩
 clear hW4 hW3h hW2h hW1h hW1lt hW2lt hW3lt
 have hawh:=Hid.mk haw
 have hsvh:=Hid.mk hsv
 clear haw hsv
 exact lsC hi hr hk hd hz hh hcap hN hB hit hlt hn hawh hsvh ⟨f0,f2,f3,f4,f5,f6⟩ f7 hw4 hs6 _ rfl
end
section
variable{p:Par}{hst:yp0 p}{i:Nat}{S:zkv p Tryz.prog i}
set_option maxHeartbeats 8000000 in
theorem yfs(s:PSt)(w:World)(hi:0<i)(hr:s.τ.r=.out)(hk:1<=s.τ.k)(hd:s.τ.d=1)(hz:s.τ.z=0)(hh:s.τ.hd=false)(hcap:8*(p.cap-p.b)+8<2147483632) :
  zbv (jdg p hst Tryz.prog i S) 167 #[.pointer (some (muA p.Mu))] s w (λs' _ w'=>∃G cc,zqr p i s w s' w' G cc):=by
 have at1:∀(n:Nat×Nat) (aw:Bool),z69 p i ⟨n,z34 s aw,s.O⟩:=λn aw=>yet hi hz hd hh hcap n aw
 refine zaz Tryz.func167 og rfl 139 og od λF hF=>?_
 have h0:F 0=.pointer (some (muA p.Mu)):=hF 0 _ rfl
 clear hF
 refine qc ?_
 refine qc ?_
 refine qc ?_
 refine qc ?_
 refine qh ?_
 refine z0k (s:=⟨s.n,z34 s false,s.O⟩) (at1 s.n false) rfl og ?_ (λwd0 n0 hL0 hn0 hlt0=>⟨s.τ.r,.inl rfl,λn1 w1 l1 h1 s1=>?_⟩)
 ·(intro wq st sm hMu;have hc:=hMu.cellSt;refine⟨run_eq_of λK hK=>ou,?_⟩;unfold listed;simp [go_sem, *];exact znz ycc _ _)
 refine qm ?_
 refine zfr (λs' a' w'=>∃F,a'=⟨tab 139 F,[]⟩/\F 0=.pointer (some (muA p.Mu))/\s'.τ={ s.τ with r:=.owner,k:=s.τ.k-1 }/\s'.O=s.O/\zay (λx=>s.O x\/p.ro x) w w') ?_ ?_
 rotate_left
 .rintro s2 a2 w2 ⟨F2,rfl,f0,hτ2,hO2,hs2⟩;obtain⟨n2,τ2,O2⟩:=s2;subst hτ2 hO2;refine zdm (t:=true) rfl ?_;simp only [if_true];refine qn ?_;refine zcy (lv hi hz) .enable (.inr rfl) rfl og rfl zlq.f zlq.name zlq.body zlq.next zlq.find 0 (by rw [show({ s.τ with r:=.owner,k:=s.τ.k-1 }:Thr).d=1 from hd];rfl) λn3 w3 l3 s3=>zad ?_;refine nm ?_;refine qd ?_
  (co_applyP zdf ?hl1 (.pointer (some (muA p.Mu))) rfl og ?hr1 ?h1;(case hl1=>exact lv hi hz);(case hr1=>(intro w1 st sm st' sm' hMu _;have hc:=hMu.cellSt;have hu:=z7e hc;exact⟨run_eq_of λK hK=>ou,listed_nil (by simp [go_sem,zq0 hc, *])⟩));refine nm ?_);intro n5 w5 l5 s5
  refine z45 rfl og rfl zhw.f zhw.name zhw.body zhw.next zhw.find oh hi hz rfl rfl hh λn4 w4 G cc l4 s4 hG hcc hGd=>zad ?_;exact⟨rfl,_,resultsC_none og _,G,cc,⟨rfl,rfl,hG,hcc,hGd,((hs2.trans s3).trans s5).trans s4⟩⟩
 refine zbq ?_
 refine zfs (r:=Prod.Lex (· < ·) (· < ·)) (Prod.lex Nat.lt_wfRel Nat.lt_wfRel).wf (λx s' a' w'=>∃wd aw sv ws it F,LsI p s w x s' a' w' wd aw sv ws it F) (n1.1,4)
  ⟨wd0,false,false,0,0,_,⟨rfl,rfl,⟨by simp [h0],od,od,od,od,od⟩,oc,hlt0,h1,rfl,od,od,rfl,s1⟩⟩ ?_
 rintro x s1' a1 w1' ⟨wd,aw,sv,ws,it,F1,⟨rfl,rfl,r,hit,hlt,hn,hτ,haw,hsv,hO,hsees⟩⟩
 obtain⟨n1',τ1,O1⟩:=s1'
 simp only at hn hτ hO
 subst hτ hO
 clear h0
 refine zbq ?_
 refine zfr (λs' a' w'=>∃F,a'=⟨tab 139 F,[]⟩/\Lr p F wd aw sv ws it/\s'=⟨n1',z34 s aw,s.O⟩/\zay (λx=>s.O x\/p.ro x) w w') (lsA hi hr hk hd hz hh hcap (λ_ _ _ h=>h) hit hlt hn hsv r hsees _ rfl) ?_
 rintro _ _ w2 ⟨F2,rfl,r2,rfl,hs2⟩
 exact lsB hi hr hk hd hz hh hcap (λ_ _ _ h=>h) (λ_ _ _ h=>h) hit hlt hn haw hsv r2 hs2 _ rfl
end
section
variable{p:Par}{hst:yp0 p}{i:Nat}{S:zkv p Tryz.prog i}
theorem ydh(s:PSt)(w:World)(hi:0<i)(hr:s.τ.r=.out)(hk:1<=s.τ.k)(hd:s.τ.d=0)(hz:s.τ.z=0)(hh:s.τ.hd=false)(hcap:8*(p.cap-p.b)+8<2147483632) :
  zbv (jdg p hst Tryz.prog i S) 69 #[.pointer (some (muA p.Mu))] s w (λs' _ w'=>∃G cc,zqr p i s w s' w' G cc):=by
 refine zaz Tryz.func69 og rfl 6 og od λF hF=>?_
 have h0:F 0=.pointer (some (muA p.Mu)):=hF 0 _ rfl
 clear hF
 refine qa ?_
 refine za4 rfl og rfl (vs:=#[.pointer (some (muA p.Mu))]) oh (yak (λs w a1 a2 a3 a4 a5 a6=>yfs s w a1 a2 a3 a4 a5 a6 hcap) _ _ hi hr hk hd hz hh hcap) λs6 v6 w6 hq=>zad ?_
 exact⟨rfl,_,resultsC_none og _,hq⟩
end
theorem zfp.mono{R R':Nat->Prop}{w:World}{v:Value}{xs:List Int}(h:zfp R w v xs)(hr:∀x,R x->R' x):zfp R' w v xs:=by obtain⟨a,c,e,h⟩:=h;refine⟨a,c,e,λj x hj=>?_⟩;obtain⟨ad,h1,h2,h3⟩:=h j x hj;exact⟨ad,h1,hr _ h2,h3⟩
theorem zdz.mono{R R':Nat->Prop}{w:World}{v:Value}{xss:List (List Int)}(h:zdz R w v xss)(hr:∀x,R x->R' x):zdz R' w v xss:=by obtain⟨a,c,e,h⟩:=h;refine⟨a,c,e,λj x hj=>?_⟩;obtain⟨ad,u,h1,h2,h3,h4⟩:=h j x hj;exact⟨ad,u,h1,hr _ h2,h3,h4.mono hr⟩
theorem z9e:Tryz.prog.underlying 78=some (.slice 38):=by kernel_rfl
theorem ydo:∃i0,Tryz.prog.info? 38=some i0/\i0.zero=some (.slice none 0 0)/\i0.size=1/\i0.bytes=24:=by
 have h1:(Tryz.prog.info? 38).isSome=true:=by kernel_rfl
 obtain⟨i0,h⟩:=kc2.1 h1;have h2:(Tryz.prog.info? 38).bind (λi=>i.zero)=some (.slice none 0 0):=by kernel_rfl
 have h3:(Tryz.prog.info? 38).map (λi=>i.size)=some 1:=by kernel_rfl
 have h4:(Tryz.prog.info? 38).map (λi=>i.bytes)=some 24:=by kernel_rfl
 rw [h] at h2 h3 h4;exact⟨i0,h,oa h2,oa h3,oa h4⟩
def zni(G:Nat->Prop)(Fb n:Nat)(ms:List Nat)(w:World):Prop :=
 G Fb/\∃v vals,w.heap[Fb]?=some (.cells #[v] 78 (0,0))/\zaw w G 38 (λu=>∃a l c,u=.slice a l c/\∀ad,a=some ad->G ad.block) v vals/\vals.length=ms.length/\
   ∀(q:Nat) (m:Nat),ms[q]?=some m->∃u,vals[q]?=some u/\zaw w G 3 zho u (ints (zby m n))
def ycm(Fb b K n B0:Nat)(G:Nat->Prop)(cc:Nat->Nat)(w:World):Prop :=
 ∃ms:List Nat,ms.Nodup/\(∀m,m∈ms↔m<K/\cc (b+m)=1)/\zni G Fb n ms w/\∀x,G x->B0<=x
theorem zni.stable{G:Nat->Prop}{Fb n:Nat}{ms:List Nat}{w w':World}(h:zni G Fb n ms w)(hs:∀x,G x->w'.heap[x]?=w.heap[x]?):zni G Fb n ms w':=by obtain⟨h1,v,vals,h2,h3,h4,h5⟩:=h;refine⟨h1,v,vals,by rw [hs _ h1];exact h2,h3.keep λk _ hk _=>⟨hk,hs k hk⟩,h4,λq m hq=>?_⟩;obtain⟨u,h6,h7⟩:=h5 q m hq;exact⟨u,h6,h7.keep λk _ hk _=>⟨hk,hs k hk⟩⟩
theorem ycm.stable{Fb b K n B0:Nat}(G:Nat->Prop)(cc:Nat->Nat)(w w':World)(hs:∀x,G x->w'.heap[x]?=w.heap[x]?)(h:ycm Fb b K n B0 G cc w):ycm Fb b K n B0 G cc w':=by obtain⟨ms,h1,h2,h3,h4⟩:=h;exact⟨ms,h1,h2,h3.stable hs,h4⟩
structure WkPre(p:Par)(s:PSt)(w:World)(Mb Bb Wb:Nat)(m n:Nat)(xss:List (List Int)):Prop where
 own:s.O Mb
 mask:w.cell? ⟨Mb,0,none⟩=some (.int .i64 (m:Int))
 roB:p.ro Bb
 sums:∃a c,w.cell? ⟨Bb,2,none⟩=some (.slice a n c)
 roW:p.ro Wb
 wrong:∃v,w.cell? ⟨Wb,0,none⟩=some v/\zdz p.ro w v xss
 m:m<1000000
 n:n<60
 len:xss.length<1000000
 lens:∀xs∈xss,xs.length<1000000
 sz:∀x,s.O x\/p.ro x->x<w.heap.size
theorem zaw.isSlice{w:World}{O:Nat->Prop}{e:TypeId}{Pc:Value->Prop}{v:Value}{xs:List Value}(h:zaw w O e Pc v xs):∃a l c,v=.slice a l c:=by
 rcases h with ⟨rfl,_⟩|⟨g,cap,cur,rfl,_⟩
 .exact⟨_,_,_,rfl⟩
 .exact⟨_,_,_,rfl⟩
theorem zaw.all{w:World}{O:Nat->Prop}{e:TypeId}{Pc:Value->Prop}{v:Value}{xs:List Value}(h:zaw w O e Pc v xs):∀x∈xs,Pc x:=by
 rcases h with ⟨_,rfl⟩|⟨g,cap,cur,h1,h2,h3,h4,h5,h6,h7,h8⟩
 .simp
 .intro x hx;rw [<-h7] at hx;exact h8 x (by simpa using kbz hx)
theorem zaw.ne{w:World}{O:Nat->Prop}{e t:TypeId}{Pc:Value->Prop}{v:Value}{xs:List Value}(h:zaw w O e Pc v xs){b:Nat}{c:Array Value}{fr:Nat×Nat}(hb:w.heap[b]?=some (.cells c t fr))(hne:e≠t):v.ownBlock≠some b:=by
 rcases h with ⟨rfl,_⟩|⟨g,cap,cur,rfl,h2,h3,_⟩
 .simp [Value.ownBlock]
 .intro hk;cases hk
  rw [h3] at hb;cases hb
  exact hne rfl
theorem zaw.ne2{w:World}{O O':Nat->Prop}{e t:TypeId}{Pc Pc':Value->Prop}{v u:Value}{xs ys:List Value}(h:zaw w O e Pc v xs)(k:zaw w O' t Pc' u ys)(hne:e≠t){q:Nat}(hq:v.ownBlock=some q):u.ownBlock≠some q:=by
 rcases h with ⟨rfl,_⟩|⟨g,cap,cur,rfl,h2,h3,_⟩
 .cases hq
 .cases hq;exact k.ne h3 (Ne.symm hne)
theorem z0n:∀(K:Nat) (l:List Nat),l.Nodup->(∀x∈l,x<K)->l.length<=K:=by
 intro K;induction K with
 | zero =>
   intro l _ h;cases l with
   | nil=>simp
   | cons a l=>exact absurd (h a od) (Nat.not_lt_zero _)
 | succ K ih =>
   intro l hn h;have h1:=ih (l.erase K) (hn.erase K) λx hx=>by have h2:=(List.Nodup.mem_erase_iff hn).1 hx;have h3:=h x h2.2;have h4:=h2.1;omega
   have h5:=List.length_erase (a:=K) (l:=l);split at h5<;>omega
theorem zaw.mono{w:World}{O:Nat->Prop}{e:TypeId}{Pc Pc':Value->Prop}{v:Value}{xs:List Value}(h:zaw w O e Pc v xs)(hp:∀u,Pc u->Pc' u):zaw w O e Pc' v xs:=by
 rcases h with h|⟨g,cap,cur,h1,h2,h3,h4,h5,h6,h7,h8⟩
 .exact .inl h
 .exact .inr ⟨g,cap,cur,h1,h2,h3,h4,h5,h6,h7,λu hu=>hp u (h8 u hu)⟩
section
variable{p:Par}{hst:yp0 p}{i:Nat}{hi:0<i}
theorem z3z(Fb Mb Bb Wb K m n B0:Nat)(xss:List (List Int))(hGd:p.Gd=ycm Fb p.b K n B0)(s:PSt)(w:World)(hib:i=p.b+m)(hmK:m<K)(hK:K<1000)(hr:s.τ.r=.out)(hk:s.τ.k=1)(hd:s.τ.d=0)(hz:s.τ.z=0)(hh:s.τ.hd=false)(hc:s.τ.c=0)
  (hF:p.F i=if zby m n∈xss then 1 else 0) (hcap:8*(p.cap-p.b)+8<2147483632) (hB0:B0<=w.heap.size) (hp:WkPre p s w Mb Bb Wb m n xss) :
  zhv (jdg p hst Tryz.prog i (zkq p Tryz.prog i hi)) 63 #[.pointer (some (wgA p.Wg)),.pointer (some ⟨Mb,0,none⟩),.pointer (some ⟨Bb,0,none⟩),.pointer (some ⟨Wb,0,none⟩),.pointer (some (muA p.Mu)),.pointer (some ⟨Fb,0,none⟩)] s w
   (λs' _ _=>s'.τ.z=3/\s'.τ.d=0):=by
 have hlv:zar i s:=lv hi hz
 refine zj3 Tryz.func63 og rfl 21 og od λF hF'=>?_
 have h0:F 0=.pointer (some (wgA p.Wg)):=hF' 0 _ rfl
 have h1:F 1=.pointer (some ⟨Mb,0,none⟩):=hF' 1 _ rfl
 have h2:F 2=.pointer (some ⟨Bb,0,none⟩):=hF' 2 _ rfl
 have h3:F 3=.pointer (some ⟨Wb,0,none⟩):=hF' 3 _ rfl
 have h4:F 4=.pointer (some (muA p.Mu)):=hF' 4 _ rfl
 have h5:F 5=.pointer (some ⟨Fb,0,none⟩):=hF' 5 _ rfl
 clear hF'
 obtain⟨pOwn,pMask,pRoB,⟨sa,sc,pSums⟩,pRoW,⟨vW,pWc,pWl⟩,pm,pn,pl,pls,psz⟩:=hp
 refine qn ?_
 refine zjm rfl og rfl (vs:=#[.pointer (some (wgA p.Wg))]) oh (zad ?_)
 refine nm ?_
 refine qn ?_
 refine zgq (.int .i64 (m:Int)) ⟨Mb,0,none⟩ hlv hz (.inl pOwn) pMask rfl og ol ?_
 refine nm ?_
 refine pu ?_
 refine zgq (.slice sa n sc) ⟨Bb,2,none⟩ hlv hz (.inr pRoB) pSums rfl og ol ?_
 refine nm ?_
 refine pu ?_
 refine za4 rfl og rfl (vs:=#[.int .i64 (m:Int),.int .i64 (n:Int)]) oh (z48 _ _ hlv hz psz m n pm pn) λs4 v4 w4 hp=>?_
 obtain⟨n4,τ4,O4⟩:=s4
 obtain⟨e1,e2,hO1,hO2,sees4,hrow4⟩:=hp
 simp only at e1 e2 hO1 hO2 hrow4
 subst e1 e2
 obtain⟨va,vl,vc,rfl⟩:=hrow4.isSlice
 refine nm ?_
 have sees4r:zay p.ro w w4:=sees4.mono λx hx=>.inr hx
 have hlv4:zar i ⟨s.n,s.τ,O4⟩:=hlv
 refine zk1 (s:=⟨s.n,s.τ,O4⟩) hlv4 hz (.cells #[.slice none 0 0] 38) (λb=>.pointer (some ⟨b,0,none⟩)) rfl og ?_ λb w5 hb1 hb2 hb3 s5=>?_
 .intro w1;exact⟨by go_simp,by simp [go_sem, *]⟩
 refine nm ?_
 have hbO:∀x,s.O x\/p.ro x->x≠b:=λx hx e=>by have h1:=psz x hx;have h2:=sees4.size;omega
 have hrow5:zaw w5 (λg=>O4 g/\w.heap.size<=g) 3 zho (Value.slice va vl vc) (ints (zby m n)):=hrow4.keep λq _ hq hlt=>⟨hq,s5.heap q hlt (.inl hq.1)⟩
 have hrow5b:∀q,(Value.slice va vl vc).ownBlock=some q->q≠b:=λq hq e=>by have h1:=(hrow4.blk hq).2;omega
 have hro5:zay p.ro w w5:=sees4r.trans (s5.mono λx hx=>.inr hx)
 refine zt0 (s:=⟨s.n,s.τ,λx=>O4 x\/x=b⟩) hlv4 hz b 38 (.slice none 0 0) (.slice va vl vc) (.inr rfl) (λh=>hbO b (.inr h) rfl) hb3 rfl og ?_ λw6 hb6 s6=>zad ?_
 .intro w1 hc1 hf1;refine⟨?_,?_⟩
  .go_simp
  .simp [go_sem, *];rw [events_store (v:=.slice va vl vc) (hv:=rfl)];simp [hc1,hf1];try rfl
 refine nm ?_
 have hrow6:zaw w6 (λg=>O4 g/\w.heap.size<=g) 3 zho (Value.slice va vl vc) (ints (zby m n)):=hrow5.keep λq hq1 hq hlt=>⟨hq,s6.heap q hlt (.inl ⟨.inl hq.1,hrow5b q hq1⟩)⟩
 have hro6:zay p.ro w w6:=hro5.trans (s6.mono λx hx=>.inr hx)
 have hwc6:w6.cell? ⟨Wb,0,none⟩=some vW:=hro6.cell (ad:=⟨Wb,0,none⟩) pRoW pWc
 have hwl6:zdz (λx=>(O4 x\/x=b)\/p.ro x) w6 vW xss:=(pWl.sees hro6).mono λx hx=>.inr hx
 have hcl6:zu0 p ⟨s.n,s.τ,λx=>O4 x\/x=b⟩ w6 ⟨b,0,none⟩ (zby m n):=by refine⟨⟨.slice va vl vc,by simp [World.cell?,hb6],?_⟩,.inl (.inr rfl),by have:=zgs m n;omega⟩;exact(zaw.ints hrow6).mono λx hx=>.inl (.inl hx.1)
 clear hb3 hrow4 hrow5
 have hlv6:zar i ⟨s.n,s.τ,λx=>O4 x\/x=b⟩:=hlv
 have hmf:∀w1:World,(Instr.makeFunc (Fn.func 67) #[] #[Value.pointer (some { block:=b,off:=0 })]).events Tryz.prog w1 #[]=#[]:=λw1=>by simp [Instr.makeFunc]
 refine zaf (zaf ?_)
 refine rg ?_
 refine zgq (s:=⟨s.n,s.τ,λx=>O4 x\/x=b⟩) vW ⟨Wb,0,none⟩ hlv4 hz (.inr pRoW) hwc6 rfl og ol ?_
 refine nm ?_
 refine pu ?_
 refine za4 rfl og rfl (vs:=#[vW,.func (.func 67) #[] #[.pointer (some ⟨b,0,none⟩)]]) oh (zyi _ _ hlv6 hz vW ⟨b,0,none⟩ xss (zby m n) hwl6 hcl6 pl pls) λs7 v7 w7 hq=>?_
 obtain⟨rfl,sees7,rfl⟩:=hq
 refine qm ?_
 have hsz7:=sees7.size
 by_cases hx:zby m n∈xss
 case neg =>
  have hdec:decide (zby m n∈xss)=false:=oa hx
  rw [hdec];refine ct ?_;refine zbc (zl6 rfl (z2a _ _ hz hr hd (by rw [hF,if_neg hx];exact hc) hcap) λs8 v8 w8 hq=>zfx rfl ⟨_,resultsC_none og _,hq⟩)
 have hdec:decide (zby m n∈xss)=true:=oa hx
 rw [hdec]
 refine cf ?_
 rw [if_pos hx] at hF
 have hrow7:zaw w7 (λg=>O4 g/\w.heap.size<=g) 3 zho (.slice va vl vc) (ints (zby m n)):=hrow6.keep λq _ hq hlt=>⟨hq,sees7.heap q hlt (.inl (.inl hq.1))⟩
 have hb7:w7.heap[b]?=some (.cells #[.slice va vl vc] 38 (0,0)):=by rw [sees7.heap b (kad.1 hb6).1 (.inl (.inr rfl))];exact hb6
 clear hrow6 hb6 hcl6 hwl6 hwc6
 refine zap (zaf ?_)
 refine rg ?_
 refine za4 rfl og rfl (vs:=#[.pointer (some (muA p.Mu))]) oh (ydh _ _ hi hr (by rw [hk];exact kac _) hd hz hh hcap) λs8 v8 w8 hq=>zad ?_
 obtain⟨G,cc,⟨e8,eO8,hGs,hci,hgd,sees8⟩⟩:=hq
 obtain⟨n8,τ8,O8⟩:=s8
 simp only at e8 eO8 hci sees8 hgd
 subst e8 eO8
 rw [hGd] at hgd
 obtain⟨ms,hnd,hms,⟨hFb,vf,vals,hf8,hrf8,hvl8,hel8⟩,hgB⟩:=hgd
 refine nm ?_
 have hb8:w8.heap[b]?=some (.cells #[.slice va vl vc] 38 (0,0)):=by rw [sees8.heap b (kad.1 hb7).1 (.inl (.inr rfl))];exact hb7
 have hrow8:zaw w8 (λg=>O4 g/\w.heap.size<=g) 3 zho (.slice va vl vc) (ints (zby m n)):=hrow7.keep λq _ hq hlt=>⟨hq,sees8.heap q hlt (.inl (.inl hq.1))⟩
 clear hb7 hrow7
 refine qn ?_
 refine zjm rfl og rfl (vs:=#[.pointer (some (muA p.Mu))]) oh (zad ?_)
 refine nm ?_
 have hlv8:zar i ⟨n8,{ s.τ with r:=.owner,k:=s.τ.k-1,d:=0,hd:=true,cc:=cc },λx=>(O4 x\/x=b)\/G x⟩:=lv hi hz
 obtain⟨fa,fl,fc,rfl⟩:=hrf8.isSlice
 have hlenms:ms.length<=K:=z0n K ms hnd λx hx=>((hms x).1 hx).1
 obtain⟨i0,t1,t2,t3,t4⟩:=ydo
 have hFb8:w8.cell? ⟨Fb,0,none⟩=some (.slice fa fl fc):=by simp [World.cell?,hf8]
 have hbb8:w8.cell? ⟨b,0,none⟩=some (.slice va vl vc):=by simp [World.cell?,hb8]
 refine rg ?_
 refine zgq (s:=⟨n8,{ s.τ with r:=.owner,k:=s.τ.k-1,d:=0,hd:=true,cc:=cc },λx=>(O4 x\/x=b)\/G x⟩) (.slice fa fl fc) ⟨Fb,0,none⟩ hlv8 hz (.inl (.inr hFb)) hFb8 rfl og ol ?_
 refine nm ?_
 refine zgq (s:=⟨n8,{ s.τ with r:=.owner,k:=s.τ.k-1,d:=0,hd:=true,cc:=cc },λx=>(O4 x\/x=b)\/G x⟩) (.slice va vl vc) ⟨b,0,none⟩ hlv8 hz (.inl (.inl (.inr rfl))) hbb8 rfl og ol ?_
 refine nm ?_
 clear hFb8 hbb8 hb8
 refine zk1 (s:=⟨n8,{ s.τ with r:=.owner,k:=s.τ.k-1,d:=0,hd:=true,cc:=cc },λx=>(O4 x\/x=b)\/G x⟩) hlv8 hz (.cells #[.slice va vl vc] 38) (λb=>.slice (some ⟨b,0,none⟩) 1 1) rfl og ?_ λb2 w9 c1 c2 c3 s9=>?_
 .intro w1;exact⟨by go_simp,by simp [go_sem, *]⟩
 refine nm ?_
 have hcc9:w9.cell? ⟨b2,0,none⟩=some (.slice va vl vc):=by simp [World.cell?,c3]
 have hf9:w9.heap[Fb]?=some (.cells #[.slice fa fl fc] 78 (0,0)):=by rw [s9.heap Fb (kad.1 hf8).1 (.inl (.inr hFb))];exact hf8
 have hrf9:zaw w9 G 38 (λu=>∃a l c,u=.slice a l c/\∀ad,a=some ad->G ad.block) (.slice fa fl fc) vals:=hrf8.keep λq _ hq hlt=>⟨hq,s9.heap q hlt (.inl (.inr hq))⟩
 have hrow9:zaw w9 (λg=>O4 g/\w.heap.size<=g) 3 zho (.slice va vl vc) (ints (zby m n)):=hrow8.keep λq _ hq hlt=>⟨hq,s9.heap q hlt (.inl (.inl (.inl hq.1)))⟩
 have hel9:∀(q:Nat) (m:Nat),ms[q]?=some m->∃u,vals[q]?=some u/\zaw w9 G 3 zho u (ints (zby m n)):=λq m' hq=>by obtain⟨u,h1,h2⟩:=hel8 q m' hq;exact⟨u,h1,h2.keep λq _ hq hlt=>⟨hq,s9.heap q hlt (.inl (.inr hq))⟩⟩
 clear hf8 hrf8 hrow8 hel8
 have hG9:∀x,G x->¬p.ro x:=λx hx=>(hGs x hx).2
 refine zkd (s:=⟨n8,{ s.τ with r:=.owner,k:=s.τ.k-1,d:=0,hd:=true,cc:=cc },λx=>((O4 x\/x=b)\/G x)\/x=b2⟩) hlv8 hz (.tmp 17) (.tmp 19) 78 38 i0 (.slice none 0 0) 24
  (λu=>∃a l c,u=.slice a l c/\∀ad,a=some ad->(G ad.block\/(Value.slice va vl vc).ownBlock=some ad.block)) z9e t1 t2 t3 t4 rfl ⟨none,0,0,rfl,λ_ h=>by cases h⟩ rfl og rfl (.slice fa fl fc) vals oh
  ⟨b2,0,none⟩ 1 (.slice va vl vc) oh G (λq hq=>.inl (.inr hq)) (hrf9.mono λu ⟨a,l,c,h1,h2⟩=>⟨a,l,c,h1,λad had=>.inl (h2 ad had)⟩) (λq hq=>hG9 q (hrf9.blk hq).1) (.inl (.inr rfl)) hcc9 rfl ?_
  (λx hx=>by obtain⟨a,l,c,h1,h2⟩:=hrf9.all x hx;exact⟨a,l,c,h1,λad had=>.inl (h2 ad had)⟩) (by rw [hvl8];simp only [maxLen];omega) (by rw [hvl8];omega) λv10 w10 O10 g1 g2 g3 s10=>?_
 .exact⟨va,vl,vc,rfl,λad had=>.inr (by rw [had];rfl)⟩
 obtain⟨xa,xl,xc,rfl⟩:=g3.isSlice
 refine nm ?_
 have hne1:(Value.slice fa fl fc).ownBlock≠some Fb:=hrf9.ne hf9 oe
 have hf10:w10.heap[Fb]?=some (.cells #[.slice fa fl fc] 78 (0,0)):=by rw [s10.heap Fb (kad.1 hf9).1 (.inl ⟨.inl (.inr hFb),hne1⟩)];exact hf9
 have hrow10:zaw w10 (λg=>O4 g/\w.heap.size<=g) 3 zho (.slice va vl vc) (ints (zby m n)):=hrow9.keep λq hq1 hq hlt=>⟨hq,s10.heap q hlt (.inl ⟨.inl (.inl (.inl hq.1)),hrow9.ne2 hrf9 oe hq1⟩)⟩
 have hel10:∀(q:Nat) (m:Nat),ms[q]?=some m->∃u,vals[q]?=some u/\zaw w10 G 3 zho u (ints (zby m n)):=λq m' hq=>by obtain⟨u,h1,h2⟩:=hel9 q m' hq;exact⟨u,h1,h2.keep λq hq1 hq hlt=>⟨hq,s10.heap q hlt (.inl ⟨.inl (.inr hq),h2.ne2 hrf9 oe hq1⟩)⟩⟩
 clear hrow9 hel9
 have hlv10:zar i ⟨n8,{ s.τ with r:=.owner,k:=s.τ.k-1,d:=0,hd:=true,cc:=cc },O10⟩:=lv hi hz
 refine zt0 (s:=⟨n8,{ s.τ with r:=.owner,k:=s.τ.k-1,d:=0,hd:=true,cc:=cc },O10⟩) hlv10 hz Fb 78 (.slice fa fl fc) (.slice xa xl xc) (g1 Fb (.inl (.inr hFb))) (hG9 Fb hFb) hf10 rfl og ?_ λw11 hf11 s11=>zad ?_
 .intro w1 hc1 hf1;refine⟨?_,?_⟩
  .go_simp
  .simp [go_sem, *];rw [events_store (v:=.slice xa xl xc) (hv:=rfl)];simp [hc1,hf1];try rfl
 refine nm ?_
 have hne2:(Value.slice xa xl xc).ownBlock≠some Fb:=g3.ne hf10 oe
 have hne3:(Value.slice va vl vc).ownBlock≠some Fb:=hrow10.ne hf10 oe
 have hUP:znd p i ⟨n8,{ s.τ with r:=.owner,k:=s.τ.k-1,d:=0,hd:=true,cc:=cc },O10⟩ w11 1 (λx=>G x\/(Value.slice va vl vc).ownBlock=some x\/(Value.slice xa xl xc).ownBlock=some x):=by
  have hG10:∀x,G x->O10 x:=λx hx=>g1 x (.inl (.inr hx));have hs1:=s9.size;have hs2:=s10.size;have hs3:=s11.size;refine⟨hi,rfl,rfl,hz,rfl,λx hx=>?_,?_,hcap⟩
  .rcases hx with hx|hx|hx
   .exact⟨hG10 x hx,by have:=(hGs x hx).1;omega⟩
   .have h1:=hrow10.blk hx;exact⟨g1 x (.inl (.inl (.inl h1.1.1))),oc⟩
   .have h1:=g3.blk hx;refine⟨?_,oc⟩;rcases h1.1 with h|h
    .exact hG10 x h
    .exact h.2
  .rw [hGd];have hmi:m∉ms:=λh=>by
     have h1:=((hms m).1 h).2;rw [<-hib,hci,hc] at h1;cases h1
   refine⟨ms++[m],?_,λm'=>?_,⟨.inl hFb,.slice xa xl xc,vals++[.slice va vl vc],hf11,?_,by simp [hvl8],λq m' hq=>?_⟩,λx hx=>?_⟩
   .rw [List.nodup_append];refine⟨hnd,od,λx hx2 y hy e=>hmi ?_⟩;have hy2:y=m:=oa hy
    rw [<-hy2,<-e];exact hx2
   .rw [kax,kcg,hms];by_cases e:m'=m
    .subst e;simp [hmK,hib]
    .have e2:p.b+m'≠i:=oc
     simp [e,e2]
   .refine(g3.keep λq hq1 hq hlt=>⟨.inr (.inr hq1),s11.heap q hlt (.inl ⟨?_,λe=>hne2 (e▸hq1)⟩)⟩).mono λu ⟨a,l,c,h1,h2⟩=>⟨a,l,c,h1,λad had=>(h2 ad had).imp id .inl⟩;rcases hq with h|h
    .exact hG10 q h
    .exact h.2
   .by_cases hqm:q<ms.length
    .rw [kam hqm] at hq;obtain⟨u,h1,h2⟩:=hel10 q m' hq;refine⟨u,by rw [kam (by rw [hvl8];exact hqm)];exact h1,h2.keep λk hk1 hk hlt=>⟨.inl hk,s11.heap k hlt (.inl ⟨hG10 k hk,λe=>h2.ne hf10 oe (e▸hk1)⟩)⟩⟩
    .rw [kao oc] at hq;have hq0:q-ms.length=0:=by
       refine Nat.eq_zero_of_not_pos λh=>?_;rw [kay (by simp only [kbo,kbv];omega)] at hq;cases hq
     rw [hq0] at hq;simp at hq;subst hq;refine⟨.slice va vl vc,?_,hrow10.keep λk hk1 hk hlt=>⟨.inr (.inl hk1),s11.heap k hlt (.inl ⟨g1 k (.inl (.inl (.inl hk.1))),λe=>hne3 (e▸hk1)⟩)⟩⟩;rw [kao (by rw [hvl8];omega),hvl8,hq0];rfl
   .have hs4:=sees4.size;have hs5:=s5.size;have hs6:=s6.size;have hs8:=sees8.size;rcases hx with hx|hx|hx
    .exact hgB x hx
    .have h1:=(hrow10.blk hx).1.2;omega
    .rcases(g3.blk hx).1 with h|h
     .exact hgB x h
     .have h1:=h.1;omega
 refine zl6 rfl (zbv.toG (z30 _ _ 1 _ hUP)) λs12 v12 w12 hq12=>?_
 obtain⟨n12,τ12,O12⟩:=s12
 obtain⟨e12,eO12,_⟩:=hq12
 simp only at e12 eO12
 subst e12 eO12
 exact zl6 rfl (z2a _ _ hz rfl rfl hF.symm hcap) λs13 v13 w13 hq=>zfx rfl ⟨_,resultsC_none og _,hq⟩
end
def zgj:Code->Code
 | .seq _ y=>y
 | c=>c
noncomputable def ydq:Code:=(Tryz.f15.body).getD .skip
noncomputable def zwc:Code:=zgj (zgj (zgj (zgj (zgj (zgj ydq)))))
noncomputable def z76:Code:=zgj (zgj (zgj (zgj (zgj zwc))))
section
variable{P:Program}{Post:Value->World->Prop}{fn:FuncId}{Q:Exit->FSt->Go.Act->World->Prop}{s:FSt}{a:Go.Act}{w:World}{ops:Array Oper}{j:Nat}{rest:List Nat}{o:Oper}
theorem zpo(o1:Obj)(f:Nat->Value)(ho:ops[j]?=some o)(hw:Region.wanted o (yielded ops a.tmps)=true)
  (hrun:∀w1:World,(execOp a.eval o).run P w1=.ok (.value (f w1.heap.size)) (w1.alloc o1)/\(execOp a.eval o).events P w1 #[]=#[])
  (h:∀d,zbk (jdgF P Post) fn ops rest Q s (a.put o.dst (f w.heap.size)) ((w.at d).alloc o1)):zbk (jdgF P Post) fn ops (j::rest) Q s a w:=by
 refine ze8 (D:=jdgF P Post) ho hw λw1 hs=>?_
 obtain⟨d,rfl⟩:=hs
 obtain⟨h1,h2⟩:=hrun (w.at d)
 show uponK o a _ ((execOp a.eval o).run P (w.at d))
 rw [h1]
 refine⟨s,⟨λ_ h=>h,kac _,λe he=>?_⟩,h d⟩
 have h3:e∈(execOp a.eval o).events P (w.at d) #[]:=seen_sub he
 rw [h2] at h3;simp at h3
end
theorem z9x(h:Array Obj)(a b c:Obj):(((h.push a).push b).push c)[h.size]?=some a/\(((h.push a).push b).push c)[h.size+1]?=some b/\(((h.push a).push b).push c)[h.size+2]?=some c:=by
 refine⟨?_,?_,?_⟩
 .rw [kbr,if_neg oy,kbr,if_neg od,kbr,if_pos rfl]
 .rw [kbr,if_neg od,kbr,if_pos od]
 .rw [kbr,if_pos od]
def zgv(Mu Wg Fb B n:Nat)(Gb:Nat->Prop)(xss:List (List Int)):Pre :=
 { Mu,Wg,tM:=115,tW:=122,K:=2 ^ n,ro:=λx=>x<B/\¬Gb x,gua:=λx=>x=Fb,Gb,Gd:=λb=>ycm Fb b (2 ^ n) n B,F:=λb j=>if zby (j-b) n∈xss then 1 else 0,hst:=λ_=>ycm.stable }
structure FwEnd(w0:World)(Gb Gb2:Nat->Prop)(n:Nat)(xss:List (List Int))(Fb:Nat)(w1:World):Prop where
 sees:zay (λx=>x<w0.heap.size/\¬Gb x) w0 w1
 found:∃(G:Nat->Prop) (ms:List Nat),ms.Nodup/\(∀m,m∈ms↔m<2 ^ n/\zby m n∈xss)/\zni G Fb n ms w1/\∀x,G x->w0.heap.size<=x/\x<w1.heap.size/\¬Gb2 x
 gb2:∀x,Gb2 x↔(Gb x\/x=w0.heap.size\/x=w0.heap.size+1)
structure FwI(N n Bb Wb:Nat)(Gb:Nat->Prop)(w3:World)(ds:List Deferred)(k:Nat)(s':PSt)(a':Go.Act)(w':World)(F:Nat->Value):Prop where
 τ:s'.τ=⟨.out,2 ^ n-k,0,0,false,0,0,0,λ_=>0⟩
 sees:zay (λx=>x<N/\¬Gb x) w3 w'
 a:a'=⟨tab 62 F,ds⟩
 f1:F 1=.pointer (some ⟨Bb,0,none⟩)
 f6:F 6=.pointer (some ⟨Wb,0,none⟩)
 f10:F 10=.pointer (some ⟨N,0,none⟩)
 f11:F 11=.pointer (some ⟨N+1,0,none⟩)
 f12:F 12=.pointer (some ⟨N+2,0,none⟩)
 f48:F 48=.int .i64 ((2 ^ n:Nat):Int)
 f49:F 49=.int .i64 (k:Int)
 le:k<=2 ^ n
set_option maxHeartbeats 4000000 in
theorem yax(Post:Value->World->Prop)(Q:Exit->FSt->Go.Act->World->Prop)(s:FSt)(F:Nat->Value)(ds:List Deferred)(w:World)(Bb Wb n:Nat)(xss:List (List Int))(hB:s.B<=w.heap.size)(hGb:∀x,s.Gb x->x<w.heap.size)
  (h1:F 1=.pointer (some ⟨Bb,0,none⟩)) (h6:F 6=.pointer (some ⟨Wb,0,none⟩)) (hn:n<10) (hbb:Bb<w.heap.size/\¬s.Gb Bb) (hwb:Wb<w.heap.size/\¬s.Gb Wb)
  (hsums:∃a c,w.cell? ⟨Bb,2,none⟩=some (.slice a n c)) (hwrong:∃v,w.cell? ⟨Wb,0,none⟩=some v/\zdz (λx=>x<w.heap.size/\¬s.Gb x) w v xss) (hlen:xss.length<1000000) (hlens:∀xs∈xss,xs.length<1000000)
  (hY:∀w1 F' Gb2 Fb,FwEnd w s.Gb Gb2 n xss Fb w1->F' 12=.pointer (some ⟨Fb,0,none⟩)->WpJ (jdgF Tryz.prog Post) 15 z76 Q ⟨Gb2,w1.heap.size⟩ ⟨tab 62 F',ds⟩ w1) :
  WpJ (jdgF Tryz.prog Post) 15 zwc Q s ⟨tab 62 F,ds⟩ w:=by
 refine qn ?_
 refine zpo (.cells #[.int .i32 0,.int .u32 0] 115) (λb=>.pointer (some ⟨b,0,none⟩)) rfl og ?_ λd1=>zad ?_
 .intro w1;exact⟨by go_simp,by simp [go_sem, *]⟩
 refine nm ?_
 refine qn ?_
 refine zpo (.cells #[.int .u64 0,.int .u32 0] 122) (λb=>.pointer (some ⟨b,0,none⟩)) rfl og ?_ λd2=>zad ?_
 .intro w1;exact⟨by go_simp,by simp [go_sem, *]⟩
 refine nm ?_
 refine qn ?_
 refine zpo (.cells #[.slice none 0 0] 78) (λb=>.pointer (some ⟨b,0,none⟩)) rfl og ?_ λd3=>zad ?_
 .intro w1;exact⟨by go_simp,by simp [go_sem, *]⟩
 refine nm ?_
 have e1:((w.at d1).alloc (.cells #[.int .i32 0,.int .u32 0] 115)).heap.size=w.heap.size+1:=World.size_alloc _ _
 have e2:((((w.at d1).alloc (.cells #[.int .i32 0,.int .u32 0] 115)).at d2).alloc (.cells #[.int .u64 0,.int .u32 0] 122)).heap.size=w.heap.size+2:=(World.size_alloc _ _).trans (congrArg Nat.succ e1)
 rw [e1,e2]
 obtain⟨w3,hw3⟩:∃w3,w3=((((((w.at d1).alloc (.cells #[.int .i32 0,.int .u32 0] 115)).at d2).alloc (.cells #[.int .u64 0,.int .u32 0] 122)).at d3).alloc (.cells #[.slice none 0 0] 78)):=⟨_,rfl⟩
 have hh3:w3.heap=((w.heap.push (.cells #[.int .i32 0,.int .u32 0] 115)).push (.cells #[.int .u64 0,.int .u32 0] 122)).push (.cells #[.slice none 0 0] 78):=by rw [hw3];rfl
 have ht3:w3.tape=w.tape/\w3.output=w.output/\w3.os=w.os:=by rw [hw3];exact⟨rfl,rfl,rfl⟩
 rw [<-hw3]
 clear hw3 e1 e2
 obtain⟨N,hN⟩:∃N,N=w.heap.size:=⟨_,rfl⟩
 have hsz3:w3.heap.size=N+3:=by rw [hh3,hN];simp
 have hm3:w3.heap[N]?=some (.cells #[.int .i32 0,.int .u32 0] 115):=by rw [hh3,hN];exact(z9x _ _ _ _).1
 have hg3:w3.heap[N+1]?=some (.cells #[.int .u64 0,.int .u32 0] 122):=by rw [hh3,hN];exact(z9x _ _ _ _).2.1
 have hf3:w3.heap[N+2]?=some (.cells #[.slice none 0 0] 78):=by rw [hh3,hN];exact(z9x _ _ _ _).2.2
 have ho3:∀x,x<N->w3.heap[x]?=w.heap[x]?:=λx hx=>by rw [hh3,kdr oy,Array.getElem_push_lt oy,Array.getElem_push_lt oc,<-Array.getElem?_eq_getElem]
 have hsee3:zay (λx=>x<N/\¬s.Gb x) w w3:=⟨ht3.1,ht3.2.1,by rw [ht3.2.2];exact .refl _,oc,λx _ hx=>ho3 x hx.1⟩
 rw [<-hN] at hbb hwb hGb hB hwrong
 rw [<-hN]
 clear hh3
 have hok:(zgv N (N+1) (N+2) N n s.Gb xss).Ok s.B w3:=by
  refine⟨hm3,hg3,hB,by show s.B<=N+1;omega,by show N≠N+1;omega,λx hx=>?_,λx hx=>?_,λx hx=>?_,λb=>?_⟩
  .have hx':x<N/\¬s.Gb x:=hx;exact⟨oc,by show x≠N;omega,by show x≠N+1;omega,hx'.2⟩
  .have hx':x=N+2:=hx;subst hx';exact⟨oc,by show N+2≠N;omega,by show N+2≠N+1;omega,λh=>by have:=hGb _ h;omega,λh=>by have h':N+2<N/\_:=h;omega⟩
  .have h1:=hGb x hx;exact⟨by show x≠N;omega,by show x≠N+1;omega⟩
  .refine⟨[],kd4,λm=>?_,⟨rfl,.slice none 0 0,[],hf3,.inl ⟨rfl,rfl⟩,rfl,λq m hq=>by simp at hq⟩,λx hx=>?_⟩
   .simp
   .have hx':x=N+2:=hx;omega
 refine zyz (π:=zgv N (N+1) (N+2) N n s.Gb xss) hok oc rfl (Gb2:=λx=>s.Gb x\/x=N\/x=N+1) (.inr (.inl rfl)) (.inr (.inr rfl)) (λx hx=>.inl hx) λb hb n0=>?_
 have hNh:=Hid.mk hN
 clear hN
 obtain⟨sa,sc,hsums⟩:=hsums
 obtain⟨vW,hwc,hwl⟩:=hwrong
 have hroB:((zgv N (N+1) (N+2) N n s.Gb xss).par b).ro Bb:=hbb
 have hroW:((zgv N (N+1) (N+2) N n s.Gb xss).par b).ro Wb:=hwb
 have hsums3:w3.cell? ⟨Bb,2,none⟩=some (.slice sa n sc):=hsee3.cell (ad:=⟨Bb,2,none⟩) hbb hsums
 have hwc3:w3.cell? ⟨Wb,0,none⟩=some vW:=hsee3.cell (ad:=⟨Wb,0,none⟩) hwb hwc
 have hwl3:=hwl.sees hsee3
 have hKlt:2 ^ n<1000:=kcv (kbi oe (by omega:n<=9)) oe
 have hlv0:zar 0 (⟨n0,zej b (zgv N (N+1) (N+2) N n s.Gb xss).K 0,λx=>(zgv N (N+1) (N+2) N n s.Gb xss).bc w3.heap.size x=.pri 0⟩:PSt):=lv0 rfl (show(0:Nat)<3 by decide)
 refine zaf ?_
 refine qd ?_
 refine zgq (p:=(zgv N (N+1) (N+2) N n s.Gb xss).par b) (.slice sa n sc) ⟨Bb,2,none⟩ hlv0 rfl (.inr hroB) hsums3 rfl og ol ?_
 refine nm ?_
 refine pu ?_
 have hshl:∀w1:World,(Op.shift .shl .i64 1 .i64 (n:Int)).run Tryz.prog w1=.ok (.int .i64 ((2 ^ n:Nat):Int)) w1:=by
  intro w1;have hb:IntKind.i64.bits=64:=rfl;have hk0:¬((n:Int)<0):=oc
  have e1:min (n:Int).toNat 64=n:=by simp;omega
  have e2:(2:Int) ^ n=((2 ^ n:Nat):Int):=od
  unfold Op.shift;simp only [hk0,if_false,hb,e1,e2,Sem.run_pure,Int.one_mul];rw [zj9 _ (keh _) oc]
 have hshe:∀w1:World,(Op.shift .shl .i64 1 .i64 (n:Int)).events Tryz.prog w1 #[]=#[]:=by
  intro w1;have hk0:¬((n:Int)<0):=oc
  unfold Op.shift;simp only [hk0,if_false,Sem.events_pure]
 obtain⟨K,hK⟩:∃K,K=2 ^ n:=⟨_,rfl⟩
 rw [<-hK] at hshl
 co_applyP zio (.int .i64 (K:Int)) rfl og ?hr ?he ?h
 case hr=>(intro w1;go_simp)
 case he=>(intro w1;simp [go_sem, *])
 refine qm ?_
 have hKh:=Hid.mk hK
 clear hshl hshe hK
 refine zbq (zfs kbu (λx s' a' w'=>∃k F,x=2 ^ n-k/\FwI N n Bb Wb s.Gb w3 ds k s' a' w' F) (2 ^ n) ⟨0,_,rfl,⟨rfl,zay.refl _ _,rfl,by simp [h1],by simp [h6],od,od,od,by simp [hKh.out],od,kb6 _⟩⟩ ?_)
 clear h1 h6 hlv0
 rintro _ s2 _ w2 ⟨k,F2,rfl,I2⟩
 obtain⟨hτ,sees2,rfl,h1,h6,h10,h11,h12,h48,h49,hk⟩:=I2
 obtain⟨n2,τ2,O2⟩:=s2
 simp only at hτ
 subst hτ
 obtain⟨K2,hK2⟩:∃K2,K2=2 ^ n:=⟨_,rfl⟩
 rw [<-hK2] at h48
 have hK2h:=Hid.mk hK2
 clear hK2
 refine qc ?_
 by_cases hkl:k<2 ^ n
 case neg =>
  have hkl':K2<=k:=by have:=hK2h.out;omega
  refine zaf ?_;refine cf ?_;refine zih ?_;have hkK:k=2 ^ n:=by have:=hK2h.out;omega
  refine⟨rfl,?_⟩;refine rg ?_;refine za4 rfl og rfl (vs:=#[.pointer (some (wgA (N+1)))]) (by simp [Act.eval,wgA, *]) (z9c (p:=(zgv N (N+1) (N+2) N n s.Gb xss).par b) _ _ rfl rfl rfl rfl (by show 8*(b+2 ^ n-b)+8<2147483632;omega)) λs4 v4 w4 hp=>zad ?_;obtain⟨n4,τ4,O4⟩:=s4;obtain⟨e1,e2,sees4⟩:=hp;simp only at e1 e2;subst e1 e2;refine nm ?_;refine⟨rfl,rfl,λgh w1 t hG hth hown hsee=>?_⟩
  have hth0:gh.th 0=⟨.out,2 ^ n-k,0,0,false,0,3,0,λ_=>0⟩:=hth;have hsee1:zay (λx=>x<N/\¬s.Gb x) w w1:=hsee3.trans ((sees2.trans (sees4.mono λx hx=>.inr hx)).trans (hsee.mono λx hx=>.inr hx));have hbb:((zgv N (N+1) (N+2) N n s.Gb xss).par b).b=b:=rfl;have hnx:gh.nx=b+2 ^ n:=by have h9:=hG.nk;rw [hth0] at h9;have h10:gh.nx+(2 ^ n-k)=b+2 ^ n:=h9;omega
  have hover:∀j,0<j->j<gh.nx->(gh.th j).z=3:=λj hj hl=>by
   by_cases hjb:b<=j
   .exact hG.wi.over hG.z5 (by rw [hth0];show 2<=3;omega) hjb hl
   .exact hG.lv j hj (by rw [hbb];omega)
  have hnone:gh.h=none:=by
   cases hh:gh.h with
   | none=>rfl
   | some j =>
     have h9:=(hG.hd j).1 hh;have h10:=hG.ow j h9;by_cases hj0:j=0
     .subst hj0;rw [hG.t0.1] at h10;cases h10.1
     .have h11:=hG.z1 j oc (by rw [hover j (oc) h10.2];decide);rw [h11] at h10;cases h10.1
  obtain⟨ms,hnd,hms,hfa,hGB⟩:=hG.gd hnone;refine hY w1 _ (λx=>s.Gb x\/x=N\/x=N+1) (N+2) ⟨?_,⟨λx=>gh.bc x=.gua,ms,hnd,λm=>?_,hfa,λx hx=>?_⟩,λx=>?_⟩ (by simp [h12])
  .rw [<-hNh.out];exact hsee1
  .rw [hms m];refine and_congr_right λhm=>?_;have h9:=hG.fc (b+m) (Nat.le_add_right _ _) (by rw [hover (b+m) (oc) (oc)];decide);have h10:(gh.th (b+m)).c=if zby (b+m-b) n∈xss then 1 else 0:=h9
   rw [Nat.add_sub_cancel_left] at h10;show(gh.th (b+m)).c=1↔_;rw [h10];by_cases h11:zby m n∈xss<;>simp [h11]
  .have h9:=hGB x hx;have h10:=hG.sz x (by rw [hx];simp);refine⟨by rw [<-hNh.out];exact h9,h10,?_⟩;have h11:¬(x=N\/x=N+1):=λe=>by
     have h12:=(hG.shr x).2 e;rw [hx] at h12;cases h12
   rintro(h13|h13)
   .have:=hGb x h13;omega
   .exact h11 h13
  .rw [<-hNh.out]
 have hkl':k<K2:=by have:=hK2h.out;omega
 have hlv2:zar 0 (⟨n2,⟨.out,2 ^ n-k,0,0,false,0,0,0,λ_=>0⟩,O2⟩:PSt):=lv0 rfl (show(0:Nat)<3 by decide)
 refine zaf ?_
 refine ct ?_
 refine zap (zaf (zbq (zaf ?_)))
 refine qd ?_
 refine zk1 (p:=(zgv N (N+1) (N+2) N n s.Gb xss).par b) (s:=⟨n2,⟨.out,2 ^ n-k,0,0,false,0,0,0,λ_=>0⟩,O2⟩) hlv2 rfl (.cells #[.int .i64 0] 3) (λb=>.pointer (some ⟨b,0,none⟩)) rfl og ?_ λMb w5 c1 c2 c3 s5=>?_
 .intro w1;exact⟨by go_simp,by simp [go_sem, *]⟩
 refine nm ?_
 have hs2:=sees2.size
 have hMro:¬((zgv N (N+1) (N+2) N n s.Gb xss).par b).ro Mb:=λh=>by have h':Mb<N/\_:=h;omega
 have sees5:zay (λx=>x<N/\¬s.Gb x) w3 w5:=sees2.trans (s5.mono λx hx=>.inr hx)
 have hlv5:zar 0 (⟨n2,⟨.out,2 ^ n-k,0,0,false,0,0,0,λ_=>0⟩,λx=>O2 x\/x=Mb⟩:PSt):=hlv2
 refine zt0 (p:=(zgv N (N+1) (N+2) N n s.Gb xss).par b) (s:=⟨n2,⟨.out,2 ^ n-k,0,0,false,0,0,0,λ_=>0⟩,λx=>O2 x\/x=Mb⟩) hlv5 rfl Mb 3 (.int .i64 0) (.int .i64 (k:Int)) (.inr rfl) hMro c3 rfl og ?_ λw6 hM6 s6=>zad ?_
 .intro w1 hc1 hf1;refine⟨?_,?_⟩
  .go_simp
  .simp [go_sem, *]
 refine nm ?_
 have sees6:zay (λx=>x<N/\¬s.Gb x) w3 w6:=sees5.trans (s6.mono λx hx=>.inr hx)
 have hs5:=s5.size
 have hs6:=s6.size
 clear sees2 sees5 s5 s6 c3 hlv2
 refine qn ?_
 refine zrx rfl og rfl (vs:=#[.pointer (some (wgA (N+1))),.int .i64 1]) (by simp [Act.eval,wgA, *]) (yf0 (p:=(zgv N (N+1) (N+2) N n s.Gb xss).par b) _ _ rfl rfl rfl rfl (by show 8*(b+2 ^ n-b)+8<2147483632;omega)) λs7 v7 w7 hp=>zad ?_
 obtain⟨n7,τ7,O7⟩:=s7
 obtain⟨e1,e2,sees7⟩:=hp
 simp only at e1 e2
 subst e1 e2
 refine nm ?_
 have sees7r:zay (λx=>x<N/\¬s.Gb x) w3 w7:=sees6.trans (sees7.mono λx hx=>.inr hx)
 have hM7:w7.heap[Mb]?=some (.cells #[.int .i64 (k:Int)] 3 (0,0)):=by rw [sees7.heap Mb (kad.1 hM6).1 (.inl (.inr rfl))];exact hM6
 have hs7:=sees7.size
 clear sees6 sees7 hM6
 have hmf:∀c (w1:World),(Instr.makeFunc (Fn.func 63) #[] c).events Tryz.prog w1 #[]=#[]:=λc w1=>by simp [Instr.makeFunc]
 refine qd ?_
 clear hmf
 have hsees7:∀w1:World,zay (λx=>(O2 x\/x=Mb)\/((zgv N (N+1) (N+2) N n s.Gb xss).par b).ro x) w7 w1->zay (λx=>x<N/\¬s.Gb x) w3 w1:=λw1 hs=>sees7r.trans (hs.mono λx hx=>.inr hx)
 refine zx0 (p:=(zgv N (N+1) (N+2) N n s.Gb xss).par b) (d:={ target:=.fn (.func 63) #[.pointer (some (wgA (N+1))),.pointer (some ⟨Mb,0,none⟩),.pointer (some ⟨Bb,0,none⟩),.pointer (some ⟨Wb,0,none⟩),.pointer (some (muA N)),.pointer (some ⟨N+2,0,none⟩)],args:=#[] }) rfl og ?_ ?_ rfl rfl rfl rfl rfl ?_ (λx=>x == Mb) ?_ ?_ λn8 w8 s8=>zad ?_
 .intro w1;go_simp;rfl
 .intro w1;simp [go_sem, *]
 .show 0<2 ^ n-k;omega
 .intro x hx;exact .inr (oa hx)
 .intro j nn w1 hj hbj hjk hs;have hjk':j+(2 ^ n-k)=b+2 ^ n:=hjk;have hjb:j=b+k:=oc
  have hsee:=hsees7 w1 hs;have hs71:=hs.size;refine yah (hi:=hj) (hst:=(zgv N (N+1) (N+2) N n s.Gb xss).hst b) Tryz.func63 og nn (fresh 1) (λx=>(x == Mb)=true) w1 oe
   (z3z (p:=(zgv N (N+1) (N+2) N n s.Gb xss).par b) (hi:=hj) (N+2) Mb Bb Wb (2 ^ n) k n N xss rfl _ w1 hjb hkl hKlt rfl rfl rfl rfl rfl rfl ?_ (by show 8*(b+2 ^ n-b)+8<2147483632;omega) oc ⟨od,?_,hroB,⟨sa,sc,hsee.cell (ad:=⟨Bb,2,none⟩) hbb hsums3⟩,hroW,⟨vW,hsee.cell (ad:=⟨Wb,0,none⟩) hwb hwc3,hwl3.sees hsee⟩,oc,oc,hlen,hlens,λx hx=>?_⟩)
  .show(if zby (j-b) n∈xss then 1 else 0)=if zby k n∈xss then 1 else 0
   rw [hjb,Nat.add_sub_cancel_left]
  .have h9:w1.heap[Mb]?=some (.cells #[.int .i64 (k:Int)] 3 (0,0)):=by rw [hs.heap Mb (kad.1 hM7).1 (.inl (.inr rfl))];exact hM7
   simp [World.cell?,h9]
  .rcases hx with hx|hx
   .have e:x=Mb:=oa hx
    omega
   .have hx':x<N/\¬s.Gb x:=hx;omega
 refine nm ?_
 have sees8:=hsees7 w8 s8
 have hadd:IntKind.i64.wrap ((k:Int)+1)=((k+1:Nat):Int):=by rw [IntKind.wrap_i64];omega
 clear hsees7 s8 sees7r hM7
 refine qd ?_
 refine pu ?_
 refine zad ⟨_,?_,k+1,_,rfl,⟨?_,sees8,rfl,by simp [h1],by simp [h6],by simp [h10],by simp [h11],by simp [h12],by simp [h48,hK2h.out],od,hkl⟩⟩
 .show 2 ^ n-(k+1)<2 ^ n-k;omega
 .show(⟨.out,2 ^ n-k-1,0,0,false,0,0,0,λ_=>0⟩:Thr)=⟨.out,2 ^ n-(k+1),0,0,false,0,0,0,λ_=>0⟩;rw [Nat.sub_sub]
end Go.Kp
