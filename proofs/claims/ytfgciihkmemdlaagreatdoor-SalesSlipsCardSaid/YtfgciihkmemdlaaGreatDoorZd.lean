/- What all laws about sales rest on, beside any goroutines. Conditions: none. -/
import Derived.Test.YtfgciihkmemdlaaGreatDoorZc
namespace Go.Kp
open Go Go.Conc Go.ConcM Go.Proofs
section
variable{p:Par}{hst:yp0 p}{i:Nat}{S:zkv p Tryz.prog i}
def z34(s:PSt):Bool->Thr
 | true=>{ s.τ with r:=.spin,k:=s.τ.k-1 }
 | false=>s.τ
theorem yfq(s:PSt)(aw:Bool):(z34 s aw).z=s.τ.z:=by cases aw<;>rfl
structure Lr(p:Par)(F:Nat->Value)(wd:Wd)(aw sv:Bool)(ws:Int)(it:Nat):Prop where
 f0:F 0=.pointer (some (muA p.Mu))
 f2:F 2=.int .i64 ws
 f3:F 3=.bool sv
 f4:F 4=.bool aw
 f5:F 5=.int .i64 (it:Int)
 f6:F 6=.int .i32 (wd.word:Int)
structure LsI(p:Par)(s:PSt)(w:World)(x:Nat×Nat)(s':PSt)(a':Go.Act)(w':World)(wd:Wd)(aw sv:Bool)(ws:Int)(it:Nat)(F:Nat->Value):Prop where
 m:x=(s'.n.1,4-it)
 a:a'=⟨tab 139 F,[]⟩
 r:Lr p F wd aw sv ws it
 it:it<=4
 lt:wd.word<2147483632
 n:s'.n.2=wd.word
 τ:s'.τ=z34 s aw
 haw:aw=true->wd.W=true/\wd.S=false
 hsv:sv=true->aw=true
 O:s'.O=s.O
 sees:zay (λx=>s.O x\/p.ro x) w w'
theorem zuy.spin{wd:Wd}{n:zif->Nat}(h:zuy wd n)(hn:0<n .spin):wd.W=true/\wd.S=false:=by
 cases hS:wd.S with
 | true=>have:=(h.starv hS).2.1;omega
 | false =>
   have:=(h.norm hS).1;cases hW:wd.W with
   | true=>exact⟨rfl,rfl⟩
   | false=>rw [hW] at this;simp at this;omega
def z9j:List Nat->Option Code->Option Code
 | [],o=>o
 | 0::l,some (.seq x _)=>z9j l (some x)
 | 1::l,some (.seq _ y)=>z9j l (some y)
 | 2::l,some (.block _ c)=>z9j l (some c)
 | 2::l,some (.loop c)=>z9j l (some c)
 | 3::l,some (.cond _ x _)=>z9j l (some x)
 | _,_=>none
def PtW(p:Par)(hst:yp0 p)(i:Nat)(S:zkv p Tryz.prog i)(l:List Nat)(Q:Exit->PSt->Go.Act->World->Prop)(s:PSt)(a:Go.Act)(w:World):Prop :=
 ∀c,z9j (1::1::1::1::1::0::2::2::2::l) Tryz.f167.body=some c->WpJ (jdg p hst Tryz.prog i S) 167 c Q s a w
theorem yfr{l:List Nat}{Q:Exit->PSt->Go.Act->World->Prop}{s:PSt}{a:Go.Act}{w:World}{c:Code}(e:z9j (1::1::1::1::1::0::2::2::2::l) Tryz.f167.body=some c)(h:WpJ (jdg p hst Tryz.prog i S) 167 c Q s a w):PtW p hst i S l Q s a w:=λ_c' e'=>kaw (e.symm.trans e')▸h
def yft(p:Par)(s:PSt)(w:World)(n1 it:Nat)(s':PSt)(a':Go.Act)(w':World):Prop:=∃y:Nat×Nat,Prod.Lex (· < ·) (· < ·) y (n1,4-it)/\∃wd aw sv ws it F,LsI p s w y s' a' w' wd aw sv ws it F
def Took(p:Par)(s:PSt)(w:World)(s':PSt)(a':Go.Act)(w':World):Prop:=∃F,a'=⟨tab 139 F,[]⟩/\F 0=.pointer (some (muA p.Mu))/\s'.τ={ s.τ with r:=.owner,k:=s.τ.k-1 }/\s'.O=s.O/\zay (λx=>s.O x\/p.ro x) w w'
theorem yet{s:PSt}(hi:0<i)(hz:s.τ.z=0)(hd:s.τ.d=1)(hh:s.τ.hd=false)(hcap:8*(p.cap-p.b)+8<2147483632)(n:Nat×Nat)(aw:Bool):z69 p i ⟨n,z34 s aw,s.O⟩:=by
 cases aw
 .exact⟨hi,hz,hh,by show 0<s.τ.d;rw [hd];exact kca,hcap⟩
 .exact⟨hi,hz,hh,by show 0<s.τ.d;rw [hd];exact kca,hcap⟩
set_option maxHeartbeats 8000000 in
theorem lsA2{s:PSt}{w:World}(hi:0<i)(hr:s.τ.r=.out)(hk:1<=s.τ.k)(hd:s.τ.d=1)(hz:s.τ.z=0)(hh:s.τ.hd=false)(hcap:8*(p.cap-p.b)+8<2147483632){wd:Wd}{aw sv:Bool}{ws:Int}{it:Nat}{n1':Nat×Nat}{Q:Exit->PSt->Go.Act->World->Prop}{F2:Nat->Value}{w2:World}(hlt:wd.word<2147483632)(hn:n1'.2=wd.word)(hSf:Hid (wd.S=false))(r2:Lr p F2 wd aw sv ws it)(hs2:zay (λx=>s.O x\/p.ro x) w w2) :
  PtW p hst i S [0,1,3,0] (zjf (λs' a' w'=>∃F aw',a'=⟨tab 139 F,[]⟩/\Lr p F wd aw' sv ws it/\s'.τ=z34 s aw'/\s'.O=s.O/\s'.n.1<=n1'.1/\(aw=true->aw'=true)/\zay (λx=>s.O x\/p.ro x) w w') Q) ⟨n1',z34 s aw,s.O⟩ ⟨tab 139 F2,[]⟩ w2:=by
 have at1:∀(n:Nat×Nat) (aw:Bool),z69 p i ⟨n,z34 s aw,s.O⟩:=λn aw=>yet hi hz hd hh hcap n aw
 refine yfr rfl ?_
 obtain⟨f0,f2,f3,f4,f5,f6⟩:=r2
 refine zaf ?_
 cases aw with
 | true =>
 refine qa ?_
 refine ql ?_
 refine uw ?_
 refine pu ?_
 refine qf ?_
 refine pu ?_
 refine qf ?_
 refine ql ?_
 refine ql ?_
 refine qg ?_
 exact zap ⟨_,true,rfl,⟨by simp [f0],by simp [f2],by simp [f3],by simp [f4],by simp [f5],by simp [f6]⟩,rfl,rfl,kac _,od,hs2⟩
 | false =>
 cases hW:wd.W with
 | true =>
 have e2:bits .and .i32 (wd.word:Int) 2=2:=by rw [zy1 wd oc,hW];rfl
 clear hW
 refine qa ?_
 refine pg ?_
 refine qk ?_
 refine qf ?_
 refine pu ?_
 refine qf ?_
 refine ql ?_
 refine ql ?_
 refine qg ?_
 exact zap ⟨_,false,rfl,⟨by simp [f0],by simp [f2],by simp [f3],by simp [f4],by simp [f5],by simp [f6]⟩,rfl,rfl,kac _,od,hs2⟩
 | false =>
 have e2:bits .and .i32 (wd.word:Int) 2=0:=by rw [zy1 wd oc,hW];rfl
 have es:=z7d wd
 have hW':Hid (wd.W=false):=⟨hW⟩
 clear hW
 by_cases hc:wd.c=0
 .rw [hc] at es;simp only [kcr] at es;clear hc;refine qa ?_;refine pg ?_;refine qk ?_;refine qe ?_;refine pu ?_;refine qf ?_;refine ql ?_;refine ql ?_;refine qg ?_;exact zap ⟨_,false,rfl,⟨by simp [f0],by simp [f2],by simp [f3],by simp [f4],by simp [f5],by simp [f6]⟩,rfl,rfl,kac _,od,hs2⟩
 .have hc0:¬(wd.c:Int)=0:=oc
  have e2b:=z7c wd oc;have hnw:Hid (({ wd with W:=true }:Wd).word=wd.word+2):=⟨by simp only [Wd.word,hW'.out];simp;omega⟩;generalize hg:({ wd with W:=true }:Wd).word=nw at e2b hnw;clear hg;refine qa ?_;refine pg ?_;refine qk ?_;refine qe ?_;refine pu ?_;refine qe ?_;refine pg ?_;refine pg ?_;refine pg ?_
  refine zpn (s:=⟨n1',z34 s false,s.O⟩) (at1 n1' false) rfl oP rfl zcw.f zcw.name zcw.body zcw.next zcw.find wd.word nw oh oh oh (λwd2 n hL2 hn2 he2=>?_) (λn2 w3 l2 hm s2=>?_)
  .obtain⟨k1,k2,k3,k4⟩:=Wd.eq_of_word he2;obtain⟨L,W,S,c,T⟩:=wd2;simp only at k1 k2 k3 k4;rw [hW'.out] at k2;rw [hSf.out] at k3;subst k2 k3;refine⟨.spin,s.τ.k-1,⟨L,true,false,c,T⟩,by rw [show(z34 s false).r=.out from hr];exact .spinSet L c T,by rw [show(z34 s false).r=.out from hr];show s.τ.k-1+1=s.τ.k;omega,?_,rfl,λn2 w3 l2 _ s2=>?_⟩
   .rw [hnw.out,<-he2];simp [Wd.word];omega
   refine nm ?_;refine qj ?_;refine rg ?_;refine qb ?_;exact⟨_,true,rfl,⟨by simp [f0],by simp [f2],by simp [f3],od,by simp [f5],by simp [f6]⟩,rfl,rfl,l2.1,λ_=>rfl,hs2.trans s2⟩
  .refine nm ?_;refine qg ?_;exact zap ⟨_,false,rfl,⟨by simp [f0],by simp [f2],by simp [f3],by simp [f4],by simp [f5],by simp [f6]⟩,rfl,rfl,l2.1,od,hs2.trans s2⟩
end
end Go.Kp
