/- What all laws about sales rest on, beside any goroutines. Conditions: none. -/
import Derived.Test.YtfgciihkmemdlaaGreatDoorZd
namespace Go.Kp
open Go Go.Conc Go.ConcM Go.Proofs
section
variable{p:Par}{hst:yp0 p}{i:Nat}{S:zkv p Tryz.prog i}
set_option maxHeartbeats 8000000 in
theorem lsA1{s:PSt}{w:World}(hi:0<i)(_hr:s.τ.r=.out)(_hk:1<=s.τ.k)(_hd:s.τ.d=1)(hz:s.τ.z=0)(_hh:s.τ.hd=false)(_hcap:8*(p.cap-p.b)+8<2147483632){wd:Wd}{aw sv:Bool}{ws:Int}{it:Nat}{n1':Nat×Nat}{Q:Exit->PSt->Go.Act->World->Prop}{F1:Nat->Value}{w1':World}(hlt:wd.word<2147483632)(r:Lr p F1 wd aw sv ws it)(hsees:zay (λx=>s.O x\/p.ro x) w w1') :
  PtW p hst i S [0,0] (zjf (λs' a' w'=>∃F b,a'=⟨tab 139 F,[]⟩/\Lr p F wd aw sv ws it/\s'=⟨n1',z34 s aw,s.O⟩/\zay (λx=>s.O x\/p.ro x) w w'/\F 20=.bool b/\(b=true->it<4/\wd.L=true/\wd.S=false)) Q) ⟨n1',z34 s aw,s.O⟩ ⟨tab 139 F1,[]⟩ w1':=by
 refine yfr rfl ?_
 obtain⟨f0,f2,f3,f4,f5,f6⟩:=r
 by_cases hLS:wd.L=true/\wd.S=false
 .have e5:bits .and .i32 (wd.word:Int) 5=1:=by rw [yfo wd oc,hLS.1,hLS.2];rfl
  have hLS':Hid (wd.L=true/\wd.S=false):=⟨hLS⟩;clear hLS;refine qa ?_;refine pu ?_;refine pg ?_;by_cases h4:it<4
  .refine ycd (lv hi oC) λb k cs hb hk w1 hs=>⟨.bool w1.spins,w1.asked,stepG_canSpin_ask rfl (by simp [Region.wanted,yielded]) hk rfl ycn.f ycn.name ycn.body ycn.next ycn.find (k:=.i64) (n:=(it:Int)) oh oc,rfl,rfl,rfl,.refl _,?_⟩;refine qm ?_
   exact⟨_,w1.spins,rfl,⟨by simp [f0],by simp [f2],by simp [f3],by simp [f4],by simp [f5],by simp [f6]⟩,rfl,hsees.trans (hs.at _),od,λ_=>⟨h4,hLS'.out⟩⟩
  .refine ycd (lv hi oC) λb k cs hb hk w1 hs=>⟨.bool false,w1,stepG_canSpin_no rfl (by simp [Region.wanted,yielded]) hk rfl ycn.f ycn.name ycn.body ycn.next ycn.find (k:=.i64) (n:=(it:Int)) oh oc,rfl,rfl,rfl,.refl _,?_⟩;refine qm ?_
   exact⟨_,false,rfl,⟨by simp [f0],by simp [f2],by simp [f3],by simp [f4],by simp [f5],by simp [f6]⟩,rfl,hsees.trans hs,od,od⟩
 .have e5:∃v:Int,bits .and .i32 (wd.word:Int) 5=v/\¬v=1:=⟨_,yfo wd oc,by
    cases h1:wd.L<;>cases h2:wd.S<;>simp [h1,h2] at hLS |-⟩
  obtain⟨v,e5,hv⟩:=e5;clear hLS;refine qa ?_;refine pu ?_;refine ql ?_;refine qb ?_;exact⟨_,false,rfl,⟨by simp [f0],by simp [f2],by simp [f3],by simp [f4],by simp [f5],by simp [f6]⟩,rfl,hsees,od,od⟩
set_option maxHeartbeats 8000000 in
theorem lsA{s:PSt}{w:World}(hi:0<i)(hr:s.τ.r=.out)(hk:1<=s.τ.k)(hd:s.τ.d=1)(hz:s.τ.z=0)(hh:s.τ.hd=false)(hcap:8*(p.cap-p.b)+8<2147483632){wd:Wd}{aw sv:Bool}{ws:Int}{it:Nat}{n1':Nat×Nat}{Q:Exit->PSt->Go.Act->World->Prop}{F1:Nat->Value}{w1':World}(hx:∀s' a' w',yft p s w n1'.1 it s' a' w'->Q (.exit 1) s' a' w')(hit:it<=4)(hlt:wd.word<2147483632)(hn:n1'.2=wd.word)(hsv:sv=true->aw=true)(r:Lr p F1 wd aw sv ws it)(hsees:zay (λx=>s.O x\/p.ro x) w w1') :
  PtW p hst i S [0] (zjf (λs' a' w'=>∃F,a'=⟨tab 139 F,[]⟩/\Lr p F wd aw sv ws it/\s'=⟨n1',z34 s aw,s.O⟩/\zay (λx=>s.O x\/p.ro x) w w') Q) ⟨n1',z34 s aw,s.O⟩ ⟨tab 139 F1,[]⟩ w1':=by
 have at1:∀(n:Nat×Nat) (aw:Bool),z69 p i ⟨n,z34 s aw,s.O⟩:=λn aw=>yet hi hz hd hh hcap n aw
 refine yfr rfl ?_
 refine zfr (λs' a' w'=>∃F b,a'=⟨tab 139 F,[]⟩/\Lr p F wd aw sv ws it/\s'=⟨n1',z34 s aw,s.O⟩/\zay (λx=>s.O x\/p.ro x) w w'/\F 20=.bool b/\(b=true->it<4/\wd.L=true/\wd.S=false)) (lsA1 hi hr hk hd hz hh hcap hlt r hsees _ rfl) ?_
 rintro s2 a2 w2 ⟨F2,b,rfl,r2,rfl,hs2,f20,hb⟩
 cases b with
 | false =>refine cf ?_;exact zap ⟨F2,rfl,r2,rfl,hs2⟩
 | true =>
   obtain⟨hit4,hLt',hSf'⟩:=hb rfl;have hSf:Hid (wd.S=false):=⟨hSf'⟩;refine ct ?_;refine zfr (λs' a' w'=>∃F aw',a'=⟨tab 139 F,[]⟩/\Lr p F wd aw' sv ws it/\s'.τ=z34 s aw'/\s'.O=s.O/\s'.n.1<=n1'.1/\(aw=true->aw'=true)/\zay (λx=>s.O x\/p.ro x) w w') (lsA2 hi hr hk hd hz hh hcap hlt hn hSf r2 hs2 _ rfl) ?_;rintro s3 a3 w3 ⟨F3,aw3,rfl,⟨f0,f2,f3,f4,f5,f6⟩,hτ3,hO3,hn3,haw3,hs3⟩
   obtain⟨n3,τ3,O3⟩:=s3;simp only at hτ3 hO3 hn3;subst hτ3 hO3;refine qn ?_;refine ycd (lv hi oC) λb k cs hb hk w1 hs=>⟨_,w1,stepG_entry_pure Extern.Sync.none_ rfl og hk rfl yfn.f yfn.name yfn.body yfn.next yfn.find,rfl,rfl,rfl,.refl _,?_⟩;refine zad ?_;refine nm ?_;refine zaf ?_;have hi5:IntKind.i64.wrap ((it:Int)+1)=((it+1:Nat):Int):=by
    have h:=(show it=0\/it=1\/it=2\/it=3 by omega);rcases h with rfl|rfl|rfl|rfl<;>decide
   refine qi ?_;refine qh ?_;refine z0k (s:=⟨n3,z34 s aw3,s.O⟩) (at1 n3 aw3) rfl og ?_ (λwd4 n4 hL4 hn4 hlt4=>⟨(z34 s aw3).r,.inl rfl,λn5 w5 l5 h5 s5=>?_⟩)
   ·(intro wq st sm hMu;have hc:=hMu.cellSt;refine⟨run_eq_of λK hK=>ou,?_⟩;unfold listed;simp [go_sem, *];exact znz ycc _ _)
   refine qm ?_;refine zih (hx _ _ _ ?_);refine⟨(n5.1,4-(it+1)),?_,wd4,aw3,sv,ws,it+1,_,rfl,rfl,⟨by simp [f0],by simp [f2],by simp [f3],by simp [f4],od,od⟩,oc,hlt4,h5,rfl,λh=>?_,λh=>haw3 (hsv h),rfl,(hs3.trans hs).trans s5⟩
   .have hle:n5.1<=n1'.1:=kak l5.1 hn3;rcases Nat.lt_or_eq_of_le hle with h|h
    .exact .left _ _ h
    .rw [h];exact .right _ oc
   .subst h;exact hL4.spin hn4
end
section
variable{p:Par}{hst:yp0 p}{i:Nat}{S:zkv p Tryz.prog i}
set_option maxHeartbeats 8000000 in
theorem lsE{s:PSt}{w:World}(hi:0<i)(_hr:s.τ.r=.out)(_hk:1<=s.τ.k)(hd:s.τ.d=1)(hz:s.τ.z=0)(hh:s.τ.hd=false)(hcap:8*(p.cap-p.b)+8<2147483632){wd:Wd}{aw sv:Bool}{ws:Int}{it:Nat}{n1':Nat×Nat}{Q:Exit->PSt->Go.Act->World->Prop}{F10:Nat->Value}{n9:Nat×Nat}{w10:World}(hN:∀s' a' w',yft p s w n1'.1 it s' a' w'->Q .normal s' a' w')(hB:∀s' a' w',Took p s w s' a' w'->Q (.exit 0) s' a' w')(h9:n9.1<n1'.1)(r10:Lr p F10 wd aw sv ws it)(hs10:zay (λx=>s.O x\/p.ro x) w w10) :
  PtW p hst i S [1,1,1,1,1,1,1,3,1,1,1,1,1] Q ⟨n9,{ s.τ with r:=.woke,k:=s.τ.k-1 },s.O⟩ ⟨tab 139 F10,[]⟩ w10:=by
 obtain⟨f0,f2,f3,f4,f5,f6⟩:=r10
 refine yfr rfl ?_
 refine qh ?_
 refine z0k (s:=⟨n9,{ s.τ with r:=.woke,k:=s.τ.k-1 },s.O⟩) ⟨hi,hz,hh,by show 0<s.τ.d;rw [hd];exact kca,hcap⟩ rfl og ?_ (λwd5 n5 hL5 hn5 hlt5=>?_)
 ·(intro wq st sm hMu;have hc:=hMu.cellSt;refine⟨run_eq_of λK hK=>ou,?_⟩;unfold listed;simp [go_sem, *];exact znz ycc _ _)
 clear f6
 rcases ka1 wd5.S with hS5|hS5
 .have hst5:=hL5.starv hS5;have hn5':0<n5 .woke:=hn5;have hL0:wd5.L=false:=by cases h:wd5.L with|false=>rfl|true=>rw [h] at hst5;simp at hst5;omega
  have e3:bits .and .i32 (wd5.word:Int) 3=0:=by rw [yfw wd5 oc,hL0,hst5.1];rfl
  have e4:bits .and .i32 (wd5.word:Int) 4=4:=by rw [z9a wd5 oc,hS5];rfl
  have es:=z7d wd5;have hc5:¬(wd5.c:Int)=0:=oc
  have hc5n:¬wd5.c=0:=oc
  refine⟨.take,.inr ⟨od,by obtain⟨L,W,S,c,T⟩:=wd5;simp only at hS5;subst hS5;exact .wokeSees L W c T⟩,λn11 w11 l11 h11 s11=>?_⟩;clear hst5 hn5' hL0 hS5 hL5 hn5;refine qm ?_;refine zaf (zaf ?_);refine qi ?_;refine ct ?_;refine zaf (zaf ?_);refine qa ?_;refine qe ?_;refine qg ?_;refine zap ?_;refine qc ?_;have hs11:=hs10.trans s11
  refine zfr (λs' a' w'=>∃F,∃δ:Int,a'=⟨tab 139 F,[]⟩/\F 0=.pointer (some (muA p.Mu))/\F 9=.int .i32 δ/\(δ=-7\/δ=-11)/\s'=⟨n11,{ s.τ with r:=.take,k:=s.τ.k-1 },s.O⟩/\zay (λx=>s.O x\/p.ro x) w w') ?_ ?_
  .refine zaf ?_;have e11:IntKind.i32.wrap (-11)=-11:=oe
   cases sv with
   | false =>refine qa ?_;refine ql ?_;refine uw ?_;refine qj ?_;refine qi ?_;exact⟨_,-11,rfl,by simp [f0],od,.inr rfl,rfl,hs11⟩
   | true =>
     by_cases hc1:(wd5.c:Int)=1
     .refine rg ?_;refine qo ?_;refine qe ?_;refine qj ?_;refine qi ?_;exact⟨_,-11,rfl,by simp [f0],od,.inr rfl,rfl,hs11⟩
     .refine rg ?_;refine qo ?_;refine qe ?_;refine qg ?_;exact zap ⟨_,-7,rfl,by simp [f0],od,.inl rfl,rfl,hs11⟩
  clear f0 f2 f3 f4 f5;rintro _ _ w12 ⟨F12,δ,rfl,f0,f9,hδ,rfl,hs12⟩
  have hδh:=Hid.mk hδ;clear hδ;refine qh ?_;refine pu ?_;refine zx2 (s:=⟨n11,{ s.τ with r:=.take,k:=s.τ.k-1 },s.O⟩) ⟨hi,hz,hh,by show 0<s.τ.d;rw [hd];exact kca,hcap⟩ rfl og rfl zls.f zls.name zls.body zls.next zls.find δ oh oh λwd13 n13 hL13 hn13 hlt13=>?_;have hn13':0<n13 .take:=hn13
  have hS13:wd13.S=true:=by cases h:wd13.S with|true=>rfl|false=>have:=(hL13.norm h).2.2.1;omega
  have hst13:=hL13.starv hS13;obtain⟨L,W,S,c,T⟩:=wd13;simp only at hS13 hst13;subst hS13;have hLf:L=false:=by cases L with|false=>rfl|true=>simp at hst13;omega
  obtain⟨hWf,_⟩:=hst13;subst hLf hWf;have hc1:1<=c:=oc
  have key:∃b:Bool,((⟨true,false,b,c-1,T⟩:Wd).word:Int)=IntKind.i32.wrap (((⟨false,false,true,c,T⟩:Wd).word:Int)+δ):=by
   rcases hδh.out with rfl|rfl
   .refine⟨true,?_⟩;have e:((⟨true,false,true,c-1,T⟩:Wd).word:Int)=((⟨false,false,true,c,T⟩:Wd).word:Int) + -7:=by simp only [Wd.word,kdq,kck];omega
    rw [<-e];exact(zb5 _ oc (by rw [e];omega)).symm
   .refine⟨false,?_⟩;have e:((⟨true,false,false,c-1,T⟩:Wd).word:Int)=((⟨false,false,true,c,T⟩:Wd).word:Int) + -11:=by simp only [Wd.word,kdq,kck];omega
    rw [<-e];exact(zb5 _ oc (by rw [e];omega)).symm
  obtain⟨b,hb⟩:=key;refine⟨.owner,s.τ.k-1,⟨true,false,b,c-1,T⟩,.wokeTake false false b c T,rfl,hb,rfl,λn14 w14 l14 h14 s14=>?_⟩;refine nm ?_;refine zad ?_;exact zih (hB _ _ _ ⟨_,rfl,by simp [f0],rfl,rfl,hs12.trans s14⟩)
 .have hnm5:=(hL5.norm hS5).1;have hn5':0<n5 .woke:=hn5;have hW5:wd5.W=true:=by cases h:wd5.W with|true=>rfl|false=>rw [h] at hnm5;simp at hnm5;omega
  have e4:bits .and .i32 (wd5.word:Int) 4=0:=by rw [z9a wd5 oc,hS5];rfl
  have hWS:=Hid.mk (And.intro hW5 hS5);refine⟨.spin,.inr ⟨od,by obtain⟨L,W,S,c,T⟩:=wd5;simp only at hS5;subst hS5;exact .wokeNorm L W c T⟩,λn11 w11 l11 h11 s11=>?_⟩;clear hnm5 hn5' hW5 hS5 hL5 hn5;refine qm ?_;refine zaf (zaf ?_);refine qi ?_;refine cf ?_;refine zap ?_;refine qc ?_;refine rg ?_;refine qb ?_
  refine hN _ _ _ ⟨(n11.1,4-0),.left _ _ ?_,wd5,true,sv,ws,0,_,rfl,rfl,⟨by simp [f0],by simp [f2],by simp [f3],od,od,od⟩,oc,hlt5,h11,rfl,λ_=>hWS.out,λ_=>rfl,rfl,hs10.trans s11⟩;exact kcv l11.1 h9
end
end Go.Kp
