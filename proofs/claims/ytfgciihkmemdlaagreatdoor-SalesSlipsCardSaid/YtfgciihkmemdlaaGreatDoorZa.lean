/- What all laws about sales rest on, beside any goroutines. Conditions: none. -/
import Derived.Test.YtfgciihkmemdlaaGreatDoorZ0
import Derived.Calls
import Derived.Conc.AtomicLaws2
import Derived.Conc.Beside
import Derived.Conc.ClockLaws
import Derived.Conc.CompanyDraw
import Derived.Conc.CompanyMem
import Derived.Conc.HoldsTime
import Derived.Conc.LockJoin
import Derived.Conc.MarkLaws
import Derived.Conc.MuStops
import Derived.Conc.Own
import Derived.Conc.SmallLaws
import Derived.Conc.Starve
import Derived.Conc.WgArith
import Derived.KernelRfl
import Derived.Laws.BitsLemmas
import Derived.Laws.LoneSync
import Derived.Laws.Sem
import Derived.Test.YtfgciihkmemdlaaGreatDoorProg
namespace Go.Kp
open Go
structure Ctx where
 P:Program
 ok:Nat->Prop
 fnOk:FuncId->Prop
section
variable(C:Ctx)
end
section
variable(C:Ctx)
def zs5:Mark->Prop
 | .acquire _|.release _|.releaseMerge _|.disable|.enable|.read _|.write _=>False
 | _=>True
end
section
variable{C:Ctx}
theorem zb1(a:Addr)(i:Nat):(a.add i).block=a.block:=by unfold Addr.add;split<;>rfl
end
section
variable{C:Ctx}{α:Type}{Q:α->Prop}
theorem zt3{vs:Array Value}{i j:Nat}{x:Value}(h:x∈vs.extract i j):x∈vs:=by rw [kcs] at h;obtain⟨k,hk,rfl⟩:=h;rw [Array.getElem_extract];exact Array.getElem_mem _
end
section
variable{C:Ctx}{Q:Value->Prop}
end
section
variable(C:Ctx)
end
def Result.wld{α:Type}:Result α->World
 | .ok _ w=>w
 | .halt _ w=>w
section
variable{C:Ctx}
theorem z2k{w:World}{a:Addr}{v:Value}(hv:w.cell? a=some v):a.block<w.heap.size:=by
 unfold World.cell? at hv;split at hv
 .rename_i hb;exact(kad.1 hb).1
 .cases hv
end
end Go.Kp
namespace Go.Kp
open Go Go.Conc
section
variable(C:Ctx)
end
section
variable{C:Ctx}
theorem zre(f:Bool×Array Event->Event->Bool×Array Event)(hf:∀x e,(f x e).2=x.2\/(f x e).2=x.2.push e):∀(l:List Event) (b:Bool×Array Event) (e:Event),e∈(l.foldl f b).2->e∈b.2\/e∈l
 | [],b,e,h=>.inl h
 | x::l,b,e,h=>by
   rw [List.foldl_cons] at h;rcases zre f hf l _ e h with h|h
   .rcases hf b x with h1|h1
    .rw [h1] at h;exact .inl h
    .rw [h1] at h;rcases Array.mem_push.1 h with h|rfl
     .exact .inl h
     .exact .inr od
   .exact .inr oo
theorem seen_sub{P:Program}{f:FuncId}{es:Array Event}{e:Event}(h:e∈seen P f es):e∈es:=by
 unfold seen at h;dsimp only at h;rw [<-Array.foldl_toList] at h;rcases zre _ (λx e=>by
  obtain⟨q,kept⟩:=x;dsimp only;split
  .exact .inl rfl
  .dsimp only;split
   .exact .inl rfl
   .exact .inr rfl) es.toList _ e h with h|h
 .simp at h
 .simpa using h
end
end Go.Kp
namespace Go.Kp
structure St where
 fr:Frame
 us:List Frame
 w:World
section
end
section
end
end Go.Kp
namespace Go.Kp
open Go Go.Conc
open Go.ConcN (sumTo upd sumTo_upd upd_ne upd_same)
def Fin(P:Program)(Post:Value->World->Prop)(m:Machine)(t:Trace):Prop :=
 ∃N last o w' t',runNT P (N+1) m t=(.ended o w',t')/\runN P N m=.next last/\step P last=.ended o w'/\Conc.Good P Post last o w' t'
def zja(Gb:Nat->Prop):Loc->Prop
 | .cell a=>Gb a.block
 | .obj r=>Gb r
 | _=>False
def z8z(P:Program)(Post:Value->World->Prop)(Gb:Nat->Prop)(B:Nat)(g:Goroutine)(w:World):Prop :=
 ∀(gs:Array Goroutine) (sl:Option (Nat×Nat)) (t:Trace) (q:Nat->Nat),gs[0]?=some g->Leavers P t gs q->Past (zja Gb) B t->(∀op∈t,op.g<gs.size)->Fin P Post (crowd gs w sl) t
def FinG(P:Program)(Post:Value->World->Prop)(Gb:Nat->Prop)(g:Goroutine)(w:World):Prop:=z8z P Post Gb w.heap.size g w
section
variable{P:Program}{Post:Value->World->Prop}{Gb:Nat->Prop}
theorem Fin.next{m m':Machine}{t:Trace}{ops:Array MemOp}(hs:stepT P m=(.next m',ops))(h:Fin P Post m' (t++ops)):Fin P Post m t:=by obtain⟨n,last,o,w,t',h1,h2,h3,h4⟩:=h;exact⟨n+1,last,o,w,t',by rw [runNT_succ_next hs];exact h1,by rw [runN_succ_next hs];exact h2,h3,h4⟩
theorem at_at(w:World)(d e:Nat):(w.at d).at e=w.at e:=rfl
theorem zm1{B:Nat}{g:Goroutine}{w:World}(hrun:g.status=.running)
  (h:∀d,∃g' w' es B',stepG P true g (w.at d)=.go g' w' es/\B<=B'/\(∀e∈es,EvL (zja Gb) B' e)/\z8z P Post Gb B' g' w'):z8z P Post Gb B g w:=by
 have num:∀(t:Trace) (n i:Nat) (fn:FuncId) (pos:String) (es:Array Event),i<n->(∀op∈t,op.g<n)->∀op∈t++MemOp.ofEvents i fn pos es,op.g<n:=λt n i fn pos es hi h op hop=>(kco.1 hop).elim (h op) λh'=>by obtain⟨e,_,rfl⟩:=Conc.mem_ofEvents h';exact hi
 have key:∀(M:Nat) (e:Nat) (gs:Array Goroutine) (sl:Option (Nat×Nat)) (t:Trace) (q:Nat->Nat),sumTo gs.size q<=M->gs[0]?=some g->Leavers P t gs q->Past (zja Gb) B t->(∀op∈t,op.g<gs.size)->Fin P Post (crowd gs (w.at e) sl) t:=by
  intro M;induction M with
  | zero=>?_
  | succ M ih=>?_
  all_goals
   intro e gs sl t q hM h0 hL hP hN
   have haw:∀g∈gs,awake g:=by
    intro g' hg;obtain⟨i,hi,rfl⟩:=kcs.1 hg;rcases kbj i with rfl|hpos
    .have:gs[0]=g:=by simpa [ka2 hi] using h0
     rw [this];exact awake_of (.inl hrun)
    .exact awake_of ((hL.old i _ hpos (ka2 hi)).status.elim .inl λx=>.inr (.inr x))
   obtain⟨i,g1,d,sl',hi,hg,hst⟩:=crowd_pick (P:=P) (w:=w.at e) (sl:=sl) haw ⟨0,g,h0,hrun⟩
   rw [at_at] at hst
   rcases kbj i with rfl|hpos
  rotate_left
  rotate_left
  .obtain rfl:g1=g:=by rw [h0] at hi;exact(kaw hi).symm
   obtain⟨g',w',es,B',hgo,hsz0,hev,hF⟩:=h d;have hrunT:=runT_crowd_go (P:=P) (sl:=sl') (i:=0) hi (show stepG P (0 == 0) g1 (w.at d)=_ from hgo);have hlt:0<gs.size:=(kad.1 h0).1;refine Fin.next (hst.trans hrunT) (hF _ sl' _ q (by simp [hlt]) ⟨λj x hj hx=>?_,λj hj=>by
    rw [Deaf_other t (g':=0) (by simp at hj;omega) _ (λop hop=>by obtain⟨e,_,rfl⟩:=Conc.mem_ofEvents hop;rfl)];exact hL.above j (oa hj)⟩ ((hP.mono hsz0).own hev) (by simpa using num t gs.size 0 _ _ es hlt hN))
   have hne:0≠j:=oc
   rw [kal hne,kbe] at hx;obtain⟨y,hy,rfl⟩:=kan.1 hx;have hq:=hL.old j y hj hy;rw [woken_quitsD hq,Deaf_other t oc _ (λop hop=>by obtain⟨e,_,rfl⟩:=Conc.mem_ofEvents hop;rfl)];exact hq
  rotate_left
  .obtain rfl:g1=g:=by rw [h0] at hi;exact(kaw hi).symm
   obtain⟨g',w',es,B',hgo,hsz0,hev,hF⟩:=h d;have hrunT:=runT_crowd_go (P:=P) (sl:=sl') (i:=0) hi (show stepG P (0 == 0) g1 (w.at d)=_ from hgo);have hlt:0<gs.size:=(kad.1 h0).1;refine Fin.next (hst.trans hrunT) (hF _ sl' _ q (by simp [hlt]) ⟨λj x hj hx=>?_,λj hj=>by
    rw [Deaf_other t (g':=0) (by simp at hj;omega) _ (λop hop=>by obtain⟨e,_,rfl⟩:=Conc.mem_ofEvents hop;rfl)];exact hL.above j (oa hj)⟩ ((hP.mono hsz0).own hev) (by simpa using num t gs.size 0 _ _ es hlt hN))
   have hne:0≠j:=oc
   rw [kal hne,kbe] at hx;obtain⟨y,hy,rfl⟩:=kan.1 hx;have hq:=hL.old j y hj hy;rw [woken_quitsD hq,Deaf_other t oc _ (λop hop=>by obtain⟨e,_,rfl⟩:=Conc.mem_ofEvents hop;rfl)];exact hq
  all_goals
   have hq:=hL.old i g1 hpos hi
   have hi0:(i == 0)=false:=by simp;omega
   have hlt:i<gs.size:=(kad.1 hi).1
   cases hqi:q i with
   | zero=>rw [hqi] at hq;rw [hq.1] at hg;cases hg
   | succ k =>
     have hsum:sumTo gs.size (upd q i k)+(k+1)=sumTo gs.size q+k:=by have:=sumTo_upd q k id hlt;simpa [hqi] using this
     first
      | (exfalso;omega)
      | (rw [hqi] at hq
         rcases hq with ⟨hf,_⟩|⟨_,g',es,hm,hstp,hq'⟩
         .rw [hf] at hg;cases hg
         have hrunT:=runT_crowd_go (P:=P) (sl:=sl') (i:=i) hi (by rw [hi0];exact hstp (w.at d))
         have hsz:((gs.map (woken P g1 g' (w.at d))).setIfInBounds i g').size=gs.size:=od
         refine Fin.next (hst.trans hrunT) (ih d _ sl' _ (upd q i k) (by rw [hsz];omega) ?_ ⟨λj x hj hx=>?_,λj hj=>by
          rw [Deaf_other t (g':=i) (by simp at hj;omega) _ (λop hop=>by obtain⟨e,_,rfl⟩:=Conc.mem_ofEvents hop;rfl)];exact hL.above j (oa hj)⟩ (hP.mute oc hm) (by simpa using num t gs.size i _ _ es hlt hN))
         .have hne:i≠0:=oc
          rw [kal hne,kbe,h0];simp [woken_run hrun]
         .by_cases hji:i=j
          .subst hji;rw [kbm (oa hlt)] at hx;obtain rfl:=kaw hx
           rw [upd_same,Deaf_own];exact hq'
          .rw [kal hji,kbe] at hx;obtain⟨y,hy,rfl⟩:=kan.1 hx;have hqj:=hL.old j y hj hy;rw [woken_quitsD hqj,upd_ne q k (Ne.symm hji),Deaf_other t hji _ (λop hop=>by obtain⟨e,_,rfl⟩:=Conc.mem_ofEvents hop;rfl)];exact hqj)
 intro gs sl t q h0 hL hP hN
 exact key _ w.drawn gs sl t q (kac _) h0 hL hP hN
theorem z1v{g:Goroutine}{w:World}(hrun:g.status=.running)
  (h:∀d,∃g' w' es,stepG P true g (w.at d)=.go g' w' es/\w.heap.size<=w'.heap.size/\(∀e∈es,EvL (zja Gb) w'.heap.size e)/\FinG P Post Gb g' w'):FinG P Post Gb g w :=
 zm1 hrun λd=>by obtain⟨g',w',es,h1,h2,h3,h4⟩:=h d;exact⟨g',w',es,w'.heap.size,h1,h2,h3,h4⟩
end
end Go.Kp
namespace Go.Kp
inductive zif where
 | out|spin|queued|woke|take|owner|unl|post|hand
 deriving DecidableEq,Repr
structure Wd where
 L:Bool
 W:Bool
 S:Bool
 c:Nat
 T:Nat
 deriving DecidableEq
structure zuy(s:Wd)(n:zif->Nat):Prop where
 own:n .owner=s.L.toNat
 norm:s.S=false->s.T+n .woke+n .post+n .spin=s.W.toNat/\n .hand=0/\n .take=0/\n .queued=s.c+s.T+n .post
 starv:s.S=true->s.W=false/\n .spin=0/\n .post=0/\s.T+n .woke+n .take+n .hand=1-s.L.toNat/\s.c=n .queued+n .woke+n .take
 nolost:s.S=false->s.L=false->s.W=false->0<s.c->0<n .unl
inductive zc9:zif->zif->Wd->Wd->Prop
 | fast (T:Nat):zc9 .out .owner ⟨false,false,false,0,T⟩ ⟨true,false,false,0,T⟩
 | spinSet (L:Bool) (c T:Nat):zc9 .out .spin ⟨L,false,false,c,T⟩ ⟨L,true,false,c,T⟩
 | takeOut (W:Bool) (c T:Nat):zc9 .out .owner ⟨false,W,false,c,T⟩ ⟨true,W,false,c,T⟩
 | takeSpin (W:Bool) (c T:Nat):zc9 .spin .owner ⟨false,W,false,c,T⟩ ⟨true,false,false,c,T⟩
 | queueOut (L W S:Bool) (c T:Nat) (h:L=true\/S=true):zc9 .out .queued ⟨L,W,S,c,T⟩ ⟨L,W,S,c+1,T⟩
 | queueSpin (W b:Bool) (c T:Nat):zc9 .spin .queued ⟨true,W,false,c,T⟩ ⟨true,false,b,c+1,T⟩
 | token (L W S:Bool) (c T:Nat):zc9 .queued .woke ⟨L,W,S,c,T+1⟩ ⟨L,W,S,c,T⟩
 | wokeNorm (L W:Bool) (c T:Nat):zc9 .woke .spin ⟨L,W,false,c,T⟩ ⟨L,W,false,c,T⟩
 | wokeSees (L W:Bool) (c T:Nat):zc9 .woke .take ⟨L,W,true,c,T⟩ ⟨L,W,true,c,T⟩
 | wokeTake (L W b:Bool) (c T:Nat):zc9 .take .owner ⟨L,W,true,c,T⟩ ⟨true,W,b,c-1,T⟩
 | unlockO (L W:Bool) (c T:Nat) (h:c=0\/W=true):zc9 .owner .out ⟨L,W,false,c,T⟩ ⟨false,W,false,c,T⟩
 | unlockU (L W:Bool) (c T:Nat):zc9 .owner .unl ⟨L,W,false,c,T⟩ ⟨false,W,false,c,T⟩
 | unlockH (L W:Bool) (c T:Nat):zc9 .owner .hand ⟨L,W,true,c,T⟩ ⟨false,W,true,c,T⟩
 | unlOut (L W S:Bool) (c T:Nat) (h:c=0\/L=true\/W=true\/S=true):zc9 .unl .out ⟨L,W,S,c,T⟩ ⟨L,W,S,c,T⟩
 | unlPost (c T:Nat):zc9 .unl .post ⟨false,false,false,c+1,T⟩ ⟨false,true,false,c,T⟩
 | post (L W S:Bool) (c T:Nat):zc9 .post .out ⟨L,W,S,c,T⟩ ⟨L,W,S,c,T+1⟩
 | hand (L W S:Bool) (c T:Nat):zc9 .hand .out ⟨L,W,S,c,T⟩ ⟨L,W,S,c,T+1⟩
def shift(n:zif->Nat)(a b:zif)(r:zif):Nat:=n r+(if r=b then 1 else 0)-(if r=a then 1 else 0)
theorem zc9.inv{a b:zif}{s s':Wd}{n:zif->Nat}(h:zuy s n)(ha:0<n a)(m:zc9 a b s s'):zuy s' (shift n a b):=by
 obtain⟨h1,h2,h3,h4⟩:=h;cases m with
 | fast T =>simp at h1 h2 h3 h4<;>constructor<;>simp [shift]<;>omega
 | spinSet L c T =>cases L<;>simp at h1 h2 h3 h4<;>constructor<;>simp [shift]<;>omega
 | takeOut W c T =>cases W<;>simp at h1 h2 h3 h4<;>constructor<;>simp [shift]<;>omega
 | takeSpin W c T =>cases W<;>simp at h1 h2 h3 h4<;>constructor<;>simp [shift]<;>omega
 | queueOut L W S c T h =>cases L<;>cases W<;>cases S<;>simp at h1 h2 h3 h4 h<;>constructor<;>simp [shift]<;>omega
 | queueSpin W b c T =>cases W<;>cases b<;>simp at h1 h2 h3 h4<;>constructor<;>simp [shift]<;>omega
 | token L W S c T =>cases L<;>cases W<;>cases S<;>simp at h1 h2 h3 h4<;>constructor<;>simp [shift]<;>omega
 | wokeNorm L W c T =>cases L<;>cases W<;>simp at h1 h2 h3 h4<;>constructor<;>simp [shift]<;>omega
 | wokeSees L W c T =>cases L<;>cases W<;>simp at h1 h2 h3 h4<;>constructor<;>simp [shift]<;>omega
 | wokeTake L W b c T =>cases L<;>cases W<;>cases b<;>simp at h1 h2 h3 h4<;>constructor<;>simp [shift]<;>omega
 | unlockO L W c T h =>cases L<;>cases W<;>simp at h1 h2 h3 h4 h<;>constructor<;>simp [shift]<;>omega
 | unlockU L W c T =>cases L<;>cases W<;>simp at h1 h2 h3 h4<;>constructor<;>simp [shift]<;>omega
 | unlockH L W c T =>cases L<;>cases W<;>simp at h1 h2 h3 h4<;>constructor<;>simp [shift]<;>omega
 | unlOut L W S c T h =>cases L<;>cases W<;>cases S<;>simp at h1 h2 h3 h4 h<;>constructor<;>simp [shift]<;>omega
 | unlPost c T =>simp at h1 h2 h3 h4<;>constructor<;>simp [shift]<;>omega
 | post L W S c T =>cases L<;>cases W<;>cases S<;>simp at h1 h2 h3 h4<;>constructor<;>simp [shift]<;>omega
 | hand L W S c T =>cases L<;>cases W<;>cases S<;>simp at h1 h2 h3 h4<;>constructor<;>simp [shift]<;>omega
def zif.wt:zif->Nat
 | .out=>0|.post=>1|.hand=>1|.unl=>2|.owner=>3|.queued=>4|.take=>4|.spin=>5|.woke=>5
theorem zuy.live{s:Wd}{n:zif->Nat}(h:zuy s n)(h1:n .spin=0)(h2:n .woke=0)(h3:n .owner=0)(h4:n .unl=0)(h5:n .post=0)(h6:n .hand=0)(h7:n .take=0)(hT:s.T=0):n .queued=0:=by
 obtain⟨k1,k2,k3,k4⟩:=h;obtain⟨L,W,S,c,T⟩:=s;simp only at *;cases S with
 | true =>have:=k3 rfl;cases L<;>simp_all
 | false =>have:=k2 rfl;cases L<;>cases W<;>simp_all<;>omega
end Go.Kp
namespace Go.Kp
open Go.ConcN (sumTo upd sumTo_upd upd_ne upd_same)
def Wd.word(s:Wd):Nat:=s.L.toNat+2*s.W.toNat+4*s.S.toNat+8*s.c
theorem zc9.rank{a b:zif}{s s':Wd}(m:zc9 a b s s'):b.wt+s'.T+(if s'.word=s.word then 0 else 1)<=a.wt+s.T+(if a=.out then 6 else 0):=by
 by_cases e:s'.word=s.word
 .rw [if_pos e];clear e;cases m<;>simp [zif.wt]<;>omega
 .rw [if_neg e];cases m<;>first|(exact absurd rfl e)|(simp [zif.wt];done)|(simp [zif.wt];omega)
def cnt(N:Nat)(R:Nat->zif)(r:zif):Nat:=sumTo N λi=>if R i=r then 1 else 0
theorem zde(N:Nat)(f:Nat->Nat):∀i,i<N->f i<=sumTo N f:=by
 induction N with
 | zero=>intro i h;omega
 | succ N ih =>
   intro i h;simp only [sumTo];rcases kc3.1 h with h|rfl
   .have:=ih i h;omega
   .omega
theorem zqd{N:Nat}{R:Nat->zif}{i:Nat}(h:i<N):0<cnt N R (R i):=by have:=zde N (λj=>if R j=R i then 1 else 0) i h;simp at this;unfold cnt;omega
theorem zlj{N:Nat}{R:Nat->zif}{r:zif}(h:∀i,i<N->R i≠r):cnt N R r=0:=by
 unfold cnt;induction N with
 | zero=>rfl
 | succ N ih=>simp only [sumTo];rw [ih λi hi=>h i oc,if_neg (h N oc)]
theorem zft(N:Nat){f g:Nat->Nat}(h:∀i,i<N->f i=g i):sumTo N f=sumTo N g:=by
 induction N with
 | zero=>rfl
 | succ N ih=>simp only [sumTo];rw [ih λi hi=>h i oc,h N oc]
theorem zdd(N:Nat){f g:Nat->Nat}{i:Nat}(hi:i<N)(h:∀j,j<N->j≠i->g j=f j):sumTo N g+f i=sumTo N f+g i:=by
 induction N with
 | zero=>omega
 | succ N ih =>
   simp only [sumTo];rcases kc3.1 hi with hi'|rfl
   .have:=ih hi' λj hj=>h j oc;have:=h N oc oc;omega
   .have:=zft (f:=g) (g:=f) i λj hj=>h j oc oc;omega
theorem z6f{N:Nat}{R R':Nat->zif}{i:Nat}(hi:i<N)(h:∀j,j≠i->R' j=R j):cnt N R'=shift (cnt N R) (R i) (R' i):=by
 funext r;have:=zdd N (f:=λj=>if R j=r then 1 else 0) (g:=λj=>if R' j=r then 1 else 0) hi (λj _ hj=>by simp only [h j hj]);have hp:R i=r->0<cnt N R r:=λe=>by rw [<-e];exact zqd hi
 unfold shift;simp only [cnt] at *;by_cases h1:R i=r<;>by_cases h2:R' i=r
 .simp only [h1,h2,if_true] at this |-;have:=hp h1;omega
 .simp only [h1,h2,if_true,if_false] at this |-;rw [if_neg (Ne.symm h2)];have:=hp h1;omega
 .simp only [h1,h2,if_true,if_false] at this |-;rw [if_neg (Ne.symm h1)];omega
 .simp only [h1,h2,if_false] at this |-;rw [if_neg (Ne.symm h1),if_neg (Ne.symm h2)];omega
def rank(N:Nat)(R:Nat->zif)(k:Nat->Nat)(s:Wd):Nat:=sumTo N (λi=>(R i).wt+6*k i)+s.T
theorem zz7{N:Nat}{R R':Nat->zif}{k k':Nat->Nat}{s s':Wd}{i:Nat}(hi:i<N)(h:∀j,j≠i->R' j=R j)(hk:∀j,j≠i->k' j=k j)(m:zc9 (R i) (R' i) s s')
  (hki:k' i+(if R i=.out then 1 else 0)=k i):rank N R' k' s'+(if s'.word=s.word then 0 else 1)<=rank N R k s:=by
 have:=zdd N (f:=λj=>(R j).wt+6*k j) (g:=λj=>(R' j).wt+6*k' j) hi (λj _ hj=>by simp only [h j hj,hk j hj])
 have hr:=m.rank
 simp only [rank]
 by_cases ho:R i=.out
 .rw [if_pos ho] at hr hki;omega
 .rw [if_neg ho] at hr hki;omega
end Go.Kp
namespace Go.Kp
inductive Tr(ι:Type):Type
 | leaf:Tr ι
 | node (f:ι->Tr ι):Tr ι
inductive Tr.Sub{ι:Type}:Tr ι->Tr ι->Prop
 | mk (f:ι->Tr ι) (x:ι):Tr.Sub (f x) (.node f)
theorem Tr.wf(ι:Type):WellFounded (@Tr.Sub ι):=by
 refine⟨λt=>?_⟩;induction t with
 | leaf=>exact⟨_,λy h=>by cases h⟩
 | node f ih=>exact⟨_,λy h=>by cases h;exact ih _⟩
section
variable{α:Type}(r:α->α->Prop)
def z3q(N:Nat)(t' t:Nat->α):Prop:=∃i,i<N/\r (t' i) (t i)/\∀j,j≠i->t' j=t j
theorem z46{r:α->α->Prop}(wf:WellFounded r)(N:Nat):WellFounded (z3q r N):=by
 refine⟨?_⟩;induction N with
 | zero=>exactλt=>⟨_,λy ⟨i,hi,_⟩=>oc⟩
 | succ N ih =>
   have key:∀x:α,∀t:Nat->α,t N=x->Acc (z3q r (N+1)) t:=by
    intro x;induction x using wf.induction with
    | _ x ihx =>
      intro t;induction ih t with
      | intro t _ iht =>
        intro hx;refine⟨_,λt' ⟨i,hi,h1,h2⟩=>?_⟩;rcases kc3.1 hi with hi|rfl
        .exact iht t' ⟨i,hi,h1,h2⟩ ((h2 N oc).trans hx)
        .exact ihx (t' i) (by rw [<-hx];exact h1) t' rfl
   exactλt=>key _ t rfl
def yfh(N:Nat)(x y:α×(Nat->α)×Nat):Prop :=
 r x.1 y.1\/(x.1=y.1/\(z3q r N x.2.1 y.2.1\/(x.2.1=y.2.1/\x.2.2<y.2.2)))
theorem zzi{r:α->α->Prop}(wf:WellFounded r)(N:Nat):WellFounded (yfh r N):=by
 have h2:WellFounded (Prod.Lex (z3q r N) (λa b:Nat=>a<b)):=(Prod.lex ⟨_,z46 wf N⟩ ⟨_,kbu⟩).wf;have h3:WellFounded (Prod.Lex r (Prod.Lex (z3q r N) (λa b:Nat=>a<b))):=(Prod.lex ⟨_,wf⟩ ⟨_,h2⟩).wf;refine Subrelation.wf (λ{x y} h=>?_) h3;obtain⟨x1,x2,x3⟩:=x;obtain⟨y1,y2,y3⟩:=y;rcases h with h|⟨h1,h|⟨h2,h⟩⟩
 .exact .left _ _ h
 .simp only at h1;subst h1;exact .right _ (.left _ _ h)
 .simp only at h1 h2;subst h1;subst h2;exact .right _ (.right _ h)
end
end Go.Kp
namespace Go.Kp
open Go Go.Conc
inductive Cls where
 | pri (g:Nat)
 | gua|ro|shr|old
 deriving DecidableEq
def zyp(t:Trace)(a:Addr)(i:Nat):Prop:=∃p,t.act? p=some (.mark (.releaseMerge a))/\t.heard p/\Before t i p
def z67(t:Trace)(a:Addr)(st:Nat->Prop)(h:Option Nat)(i:Nat):Prop :=
 match h with
 | some g=>Knows t g i
 | none=>(∀g,st g->Knows t g i)\/zyp t a i
def HO(t:Trace)(i:Nat):Prop:=∀g,t.g? i=some g->g≠0->t.counts i->∃j,t.g? j=some 0/\HappensBefore t i j
structure TR(a b:Addr)(st dn:Nat->Prop)(cl:Loc->Cls)(h:Option Nat)(t:Trace):Prop where
 nr:∀said,¬Race said t
 shr:∀i x,touchAt t i=some x->cl x.loc=.shr->(x.kind=.atomic\/(x.kind=.said/\t.g? i=some 0))/\(¬t.heard i\/t.g? i=some 0\/∃j,t.g? j=some 0/\HappensBefore t i j)
 pri:∀i x g,touchAt t i=some x->cl x.loc=.pri g->Knows t g i
 gua:∀i x,touchAt t i=some x->cl x.loc=.gua->z67 t a st h i
 ro:∀i x,touchAt t i=some x->cl x.loc=.ro->x.write=true->∀g,st g->Knows t g i
 old:∀i x,touchAt t i=some x->cl x.loc=.old->(x.loc.isMemory=true->Knows t 0 i\/x.kind=.atomic)/\HO t i
 home:∀i x,touchAt t i=some x->cl x.loc≠.shr->cl x.loc≠.old->Knows t 0 i\/zyp t b i\/∃g,t.g? i=some g/\¬dn g
 nra:NoRelease a t
 nrb:NoRelease b t
theorem zyp.app{t:Trace}{a:Addr}{i:Nat}(h:zyp t a i)(u:Trace):zyp (t++u) a i:=by obtain⟨p,h1,h2,h3⟩:=h;have hp:=lt_of_act? h1;exact⟨p,by rw [act?_old hp];exact h1,(heard_old hp).2 h2,h3.app u⟩
theorem z67.app{t:Trace}{a:Addr}{st:Nat->Prop}{h:Option Nat}{i:Nat}(k:z67 t a st h i)(u:Trace):z67 (t++u) a st h i:=by
 cases h with
 | some g=>exact Knows.app u k
 | none=>exact k.imp (λk g hg=>(k g hg).app u) (λk=>k.app u)
theorem g?_app{t:Trace}{i:Nat}(h:i<t.size)(u:Trace):(t++u).g? i=t.g? i:=by simp only [Trace.g?,getElem?_append_old h]
theorem g?_of{t:Trace}{i:Nat}{w:MemOp}(h:t[i]?=some w):t.g? i=some w.g:=by rw [Trace.g?,h];rfl
theorem z0v? {t:Trace}{i g:Nat}(h:t.g? i=some g):i<t.size:=by unfold Trace.g? at h;obtain⟨z,hz,_⟩:=kan.1 h;exact lt_size_of_getElem? hz
theorem HO.app{t:Trace}{i:Nat}(h:HO t i)(hi:i<t.size)(u:Trace):HO (t++u) i:=by intro g h1 h2 h3;rw [g?_app hi] at h1;obtain⟨j,h4,h5⟩:=h g h1 h2 ((counts_old hi).1 h3);exact⟨j,by rw [g?_app (z0v? h4)];exact h4,hb_app u h5⟩
theorem zb8{t:Trace}{y:MemOp}{i:Nat}{x:Touch}(h:touchAt (t++#[y]) i=some x):(i<t.size/\touchAt t i=some x)\/(i=t.size/\y.act.touch?=some x):=by
 obtain⟨z,hz,hzx⟩:=touch_of h;rcases getElem?_append_cases hz with ⟨hi,hz'⟩|⟨hi,hzu⟩
 .exact .inl ⟨hi,by rw [touchAt_of hz'];exact hzx⟩
 .have hlt:=(kad.1 hz).1;simp at hlt;have:z=y:=oa hzu
  subst this;exact .inr ⟨oc,hzx⟩
theorem zfc(t:Trace)(y:MemOp):(t++#[y])[t.size]?=some y:=by rw [Array.getElem?_append_right (kac _)];simp
theorem g?_push(t:Trace)(y:MemOp):(t++#[y]).g? t.size=some y.g:=by simp [Trace.g?]
section
variable{a b:Addr}{st dn:Nat->Prop}{cl:Loc->Cls}{h:Option Nat}{t:Trace}
def May(cl:Loc->Cls)(h:Option Nat)(d:Nat)(g:Nat)(x:Touch):Prop :=
 cl x.loc=.pri g\/(cl x.loc=.gua/\h=some g)\/(cl x.loc=.ro/\x.write=false)\/(cl x.loc=.shr/\(x.kind=.atomic\/(x.kind=.said/\g=0))/\(0<d\/g=0))
theorem TR.push(k:TR a b st dn cl h t){y:MemOp}(hst:st y.g\/y.act.touch?=none)(hdn:¬dn y.g\/y.act.touch?=none\/∀x,y.act.touch?=some x->cl x.loc=.shr)
  (ha:y.act≠.mark (.release a)) (hb:y.act≠.mark (.release b)) (hm:∀x,y.act.touch?=some x->May cl h (Deaf t y.g) y.g x):TR a b st dn cl h (t++#[y]):=by
 have own:Knows (t++#[y]) y.g t.size:=knows_own (zfc t y)
 refine⟨λsaid=>?_,λi x hx hc=>?_,λi x g hx hc=>?_,λi x hx hc=>?_,λi x hx hc hw g hg=>?_,λi x hx hc=>?_,λi x hx hc hco=>?_,?_,?_⟩
 .refine noRace_append (k.nr said) (λop hop=>by simp at hop;rw [hop]) λi x hx op hop z hz hcf=>?_;have:op=y:=oa hop
  subst this;rcases hm z hz with hc|⟨hc,hh⟩|⟨hc,hw⟩|⟨hc,hk,_⟩
  .exact k.pri i x _ hx (by rw [hcf.1];exact hc)
  .have:=k.gua i x hx (by rw [hcf.1];exact hc);rw [hh] at this;exact this
  .exact k.ro i x hx (by rw [hcf.1];exact hc) (hcf.2.2.1.resolve_right (by simp [hw])) _ (hst.resolve_right λe=>by rw [e] at hz;cases hz)
  .have hk':=(k.shr i x hx (by rw [hcf.1];exact hc)).1;rcases hcf.2.2.2 with e|e|⟨_,e,e'⟩
   .rcases hk' with hk'|⟨hk',_⟩<;>(rw [hk'] at e;cases e)
   .rcases hk with hk|⟨hk,_⟩<;>(rw [hk] at e;cases e)
   .rcases hk with hk|⟨_,h0⟩
    .rw [hk] at e';cases e'
    rcases hk' with hk'|⟨_,hg⟩
    .rw [hk'] at e;cases e
    .obtain⟨q,hq,hqg⟩:=kan.1 hg;have:=knows_own hq;rw [hqg] at this;rw [h0];exact this
 .rcases zb8 hx with ⟨hi,hx'⟩|⟨rfl,hx'⟩
  .obtain⟨k1,k2⟩:=k.shr i x hx' hc;refine⟨k1.imp id λe=>⟨e.1,by rw [g?_app hi];exact e.2⟩,k2.imp (λe=>λhh=>e ((heard_old hi).1 hh)) (λe=>e.imp (λe=>by rw [g?_app hi];exact e) λ⟨j,h1,h2⟩=>?_)⟩;have hj:j<t.size:=by
     unfold Trace.g? at h1;obtain⟨z,hz,_⟩:=kan.1 h1;exact lt_size_of_getElem? hz
   exact⟨j,by rw [g?_app hj];exact h1,hb_app _ h2⟩
  .rcases hm x hx' with e|⟨e,_⟩|⟨e,_⟩|⟨_,e,e2⟩
   .rw [hc] at e;cases e
   .rw [hc] at e;cases e
   .rw [hc] at e;cases e
   .refine⟨e.imp id λe=>⟨e.1,by rw [g?_push,e.2]⟩,e2.imp (λhd=>?_) (λh0=>.inl (by rw [g?_push,h0]))⟩;rintro⟨g,hg,hh⟩;rw [g?_push] at hg;cases hg
    rw [deaf_old (kac _)] at hh;unfold Deaf at hd;omega
 .rcases zb8 hx with ⟨hi,hx'⟩|⟨rfl,hx'⟩
  .exact(k.pri i x g hx' hc).app _
  .rcases hm x hx' with e|⟨e,_⟩|⟨e,_⟩|⟨e,_⟩
   .rw [hc] at e;cases e;exact own
   all_goals (rw [hc] at e;cases e)
 .rcases zb8 hx with ⟨hi,hx'⟩|⟨rfl,hx'⟩
  .exact(k.gua i x hx' hc).app _
  .rcases hm x hx' with e|⟨e,hh⟩|⟨e,_⟩|⟨e,_⟩
   .rw [hc] at e;cases e
   .subst hh;exact own
   all_goals (rw [hc] at e;cases e)
 .rcases zb8 hx with ⟨hi,hx'⟩|⟨rfl,hx'⟩
  .exact(k.ro i x hx' hc hw g hg).app _
  .rcases hm x hx' with e|⟨e,hh⟩|⟨e,hn⟩|⟨e,_⟩
   .rw [hc] at e;cases e
   .rw [hc] at e;cases e
   .rw [hw] at hn;cases hn
   .rw [hc] at e;cases e
 .rcases zb8 hx with ⟨hi,hx'⟩|⟨rfl,hx'⟩
  .exact⟨λhm=>((k.old i x hx' hc).1 hm).imp (·.app _) id,(k.old i x hx' hc).2.app hi _⟩
  .rcases hm x hx' with e|⟨e,_⟩|⟨e,_⟩|⟨e,_⟩;all_goals (rw [hc] at e;cases e)
 .rcases zb8 hx with ⟨hi,hx'⟩|⟨rfl,hx'⟩
  .exact(k.home i x hx' hc hco).imp (·.app _) (λe=>e.imp (·.app _) λ⟨g,h1,h2⟩=>⟨g,by rw [g?_app hi];exact h1,h2⟩)
  .rcases hdn with e|e|e
   .exact .inr (.inr ⟨y.g,g?_push t y,e⟩)
   .rw [e] at hx';cases hx'
   .exact absurd (e x hx') hc
 .exact k.nra.app λop hop=>by simp at hop;rw [hop];exact ha
 .exact k.nrb.app λop hop=>by simp at hop;rw [hop];exact hb
theorem TR.still(k:TR a b st dn cl h t){y:MemOp}(hn:y.act.touch?=none)(ha:y.act≠.mark (.release a))(hb:y.act≠.mark (.release b))(_:st y.g):TR a b st dn cl h (t++#[y]) :=
 k.push (.inr hn) (.inr (.inl hn)) ha hb λx hx=>by rw [hn] at hx;cases hx
theorem zop{c:Addr}(hnr:NoRelease c t){z:MemOp}(hz:z.act=.mark (.acquire c))(hd:Deaf t z.g=0){i:Nat}(hf:zyp t c i):Knows (t++#[z]) z.g i:=by
 obtain⟨p,h1,h2,h3⟩:=hf;have hp:=lt_of_act? h1;have hq:=zfc t z;have hnr':NoRelease c (t++#[z]):=hnr.app λop hop=>by simp at hop;rw [hop,hz];simp
 have edge:HappensBefore (t++#[z]) p t.size:=.single (.inr ⟨.marked hp (.inr (by rw [act?_old hp];exact h1)) (by rw [act?_of hq,hz]) (λk _ _=>hnr' k),(heard_old hp).2 h2,
  ⟨z.g,g?_push t z,by rw [deaf_old (kac _)];exact hd⟩⟩)
 exact⟨t.size,z,hq,rfl,.inr ((h3.app #[z]).hb edge)⟩
theorem TR.acquire(k:TR a b st dn cl none t){z:MemOp}(hst:st z.g)(hz:z.act=.mark (.acquire a))(hd:Deaf t z.g=0):TR a b st dn cl (some z.g) (t++#[z]):=by
 have hn:z.act.touch?=none:=by rw [hz];rfl
 have hb:=k.still hn (by rw [hz];simp) (by rw [hz];simp) hst;refine⟨hb.nr,hb.shr,hb.pri,λi x hx hc=>?_,hb.ro,hb.old,hb.home,hb.nra,hb.nrb⟩;rcases zb8 hx with ⟨hi,hx'⟩|⟨rfl,hx'⟩
 .rcases k.gua i x hx' hc with e|e
  .exact(e _ hst).app _
  .exact zop k.nra hz hd e
 .rw [hn] at hx';cases hx'
theorem TR.release{g:Nat}(k:TR a b st dn cl (some g) t){y:MemOp}(hst:st g)(hg:y.g=g)(hy:y.act=.mark (.releaseMerge a))(hd:Deaf t g=0):TR a b st dn cl none (t++#[y]):=by
 have hn:y.act.touch?=none:=by rw [hy];rfl
 have hb:=k.still hn (by rw [hy];simp) (by rw [hy];simp) (by rw [hg];exact hst);refine⟨hb.nr,hb.shr,hb.pri,λi x hx hc=>?_,hb.ro,hb.old,hb.home,hb.nra,hb.nrb⟩;rcases zb8 hx with ⟨hi,hx'⟩|⟨rfl,hx'⟩
 .exact .inr ⟨t.size,by rw [act?_of (zfc t y),hy],⟨g,by rw [g?_push,hg],by rw [deaf_old (kac _)];exact hd⟩,.inr ((k.gua i x hx' hc).hb_new (kac _) (zfc t y) hg)⟩
 .rw [hn] at hx';cases hx'
theorem TR.finish{g:Nat}(k:TR a b st dn cl h t){y:MemOp}(hst:st g)(hg:y.g=g)(hy:y.act=.mark (.releaseMerge b))(hd:Deaf t g=0):TR a b st (λj=>dn j\/j=g) cl h (t++#[y]):=by
 have hn:y.act.touch?=none:=by rw [hy];rfl
 have hb:=k.still hn (by rw [hy];simp) (by rw [hy];simp) (by rw [hg];exact hst);refine⟨hb.nr,hb.shr,hb.pri,hb.gua,hb.ro,hb.old,λi x hx hc hco=>?_,hb.nra,hb.nrb⟩;rcases zb8 hx with ⟨hi,hx'⟩|⟨rfl,hx'⟩
 .rcases k.home i x hx' hc hco with e|e|⟨g',e1,e2⟩
  .exact .inl (e.app _)
  .exact .inr (.inl (e.app _))
  .by_cases hgg:g'=g
   .subst hgg;refine .inr (.inl ⟨t.size,by rw [act?_of (zfc t y),hy],⟨g',by rw [g?_push,hg],by rw [deaf_old (kac _)];exact hd⟩,.inr ?_⟩);obtain⟨z,hz,hzg⟩:=kan.1 e1;have:=knows_own hz;rw [hzg] at this;exact this.hb_new (kac _) (zfc t y) hg
   .exact .inr (.inr ⟨g',by rw [g?_app hi];exact e1,λe=>e.elim e2 hgg⟩)
 .rw [hn] at hx';cases hx'
theorem TR.fork{cl':Loc->Cls}{c:Nat}(k:TR a b st dn cl h t)(h0:st 0){x y:MemOp}(hx:x.g=0/\x.act=.go c)(hy:y.g=c/\y.act=.start)(d0:Deaf t 0=0)(dc:Deaf t c=0)
  (hcl:∀l,cl' l=cl l\/(cl l=.pri 0/\cl' l=.pri c)):TR a b (λg=>st g\/g=c) dn cl' h (t++#[x,y]):=by
 have hnx:x.act.touch?=none:=by rw [hx.2];rfl
 have hny:y.act.touch?=none:=by rw [hy.2];rfl
 have hm:∀op∈#[x,y],op=x\/op=y:=by intro op hop;simpa using hop
 have hnt:∀op∈#[x,y],op.act.touch?=none:=by intro op hop;rcases hm op hop with rfl|rfl<;>assumption
 have hnr:∀c,∀op∈#[x,y],op.act≠.mark (.release c):=by
  intro c op hop;rcases hm op hop with rfl|rfl
  .rw [hx.2];simp
  .rw [hy.2];simp
 have old:∀{i:Nat} {z:Touch},touchAt (t++#[x,y]) i=some z->i<t.size/\touchAt t i=some z:=by
  intro i z hz;obtain⟨w,hw,hwz⟩:=touch_of hz;rcases getElem?_append_cases hw with ⟨hi,hw'⟩|⟨_,hwu⟩
  .exact⟨hi,by rw [touchAt_of hw'];exact hwz⟩
  .rw [hnt w hwu] at hwz;cases hwz
 have child:∀i,Knows t 0 i->Knows (t++#[x,y]) c i:=λi hk=>ConcN.fork_knows hx hy d0 dc hk
 have notshr:∀l q,cl' l=q->(∀g,q≠.pri g)->cl l=q:=λl q e hq=>by
  rcases hcl l with e1|⟨_,e1⟩
  .rw [<-e1];exact e
  .rw [e] at e1;exact absurd e1 (hq c)
 refine⟨λsaid=>?_,λi z hz hc=>?_,λi z g hz hc=>?_,λi z hz hc=>?_,λi z hz hc hw g hg=>?_,λi z hz hc=>?_,λi z hz hc hco=>?_,k.nra.app (hnr a),k.nrb.app (hnr b)⟩
 .have e:t++#[x,y]=(t++#[x])++#[y]:=by apply kd8;simp
  rw [e];refine noRace_append (noRace_append (k.nr said) (λop hop=>by simp at hop;rw [hop]) λi z _ op hop w hw _=>?_) (λop hop=>by simp at hop;rw [hop]) λi z _ op hop w hw _=>?_
  .have:op=x:=oa hop
   rw [this,hnx] at hw;cases hw
  .have:op=y:=oa hop
   rw [this,hny] at hw;cases hw
 .obtain⟨hi,hz'⟩:=old hz;obtain⟨k1,k2⟩:=k.shr i z hz' (notshr _ _ hc od);refine⟨k1.imp id λe=>⟨e.1,by rw [g?_app hi];exact e.2⟩,k2.imp (λe=>λhh=>e ((heard_old hi).1 hh)) (λe=>e.imp (λe=>by rw [g?_app hi];exact e) λ⟨j,h1,h2⟩=>⟨j,by rw [g?_app (z0v? h1)];exact h1,hb_app _ h2⟩)⟩
 .obtain⟨hi,hz'⟩:=old hz;rcases hcl z.loc with e|⟨e1,e2⟩
  .exact(k.pri i z g hz' oO).app _
  .rw [hc] at e2;cases e2
   exact child i (k.pri i z 0 hz' e1)
 .obtain⟨hi,hz'⟩:=old hz;have:=k.gua i z hz' (notshr _ _ hc od);cases h with
  | some g=>exact Knows.app _ this
  | none =>
    rcases this with e|e
    .exact .inl λg hg=>hg.elim (λhg=>(e g hg).app _) (λhg=>by rw [hg];exact child i (e 0 h0))
    .exact .inr (e.app _)
 .obtain⟨hi,hz'⟩:=old hz;have:=k.ro i z hz' (notshr _ _ hc od) hw;exact hg.elim (λhg=>(this g hg).app _) (λhg=>by rw [hg];exact child i (this 0 h0))
 .obtain⟨hi,hz'⟩:=old hz;have:=k.old i z hz' (notshr _ _ hc od);exact⟨λhm=>(this.1 hm).imp (·.app _) id,this.2.app hi _⟩
 .obtain⟨hi,hz'⟩:=old hz;have e1:cl z.loc≠.shr:=λe=>by rcases hcl z.loc with q|⟨q,_⟩;exact hc (q.trans e);rw [e] at q;cases q
  have e2:cl z.loc≠.old:=λe=>by rcases hcl z.loc with q|⟨q,_⟩;exact hco (q.trans e);rw [e] at q;cases q
  exact(k.home i z hz' e1 e2).imp (·.app _) (λe=>e.imp (·.app _) λ⟨g,h1,h2⟩=>⟨g,by rw [g?_app hi];exact h1,h2⟩)
theorem TR.recl{cl':Loc->Cls}(k:TR a b st dn cl h t)(hcl:∀l,cl' l=cl l\/(∀i x,touchAt t i=some x->x.loc≠l)\/(∃g,h=some g/\(cl l=.pri g\/cl l=.gua)/\(cl' l=.pri g\/cl' l=.gua))):TR a b st dn cl' h t:=by
 have key:∀i x,touchAt t i=some x->cl' x.loc=cl x.loc\/(∃g,h=some g/\(cl x.loc=.pri g\/cl x.loc=.gua)/\(cl' x.loc=.pri g\/cl' x.loc=.gua)):=λi x hx=>by
  rcases hcl x.loc with e|e|e
  .exact .inl e
  .exact absurd rfl (e i x hx)
  .exact .inr e
 have kn:∀i x g,touchAt t i=some x->h=some g->(cl x.loc=.pri g\/cl x.loc=.gua)->Knows t g i:=λi x g hx hh e=>by
  rcases e with e|e
  .exact k.pri i x g hx e
  .have:=k.gua i x hx e;rw [hh] at this;exact this
 refine⟨k.nr,λi x hx hc=>?_,λi x g hx hc=>?_,λi x hx hc=>?_,λi x hx hc=>?_,λi x hx hc=>?_,λi x hx hc hco=>?_,k.nra,k.nrb⟩
 .rcases key i x hx with e|⟨g,_,_,e|e⟩
  .exact k.shr i x hx oO
  all_goals (rw [hc] at e;cases e)
 .rcases key i x hx with e|⟨g',hh,e1,e|e⟩
  .exact k.pri i x g hx oO
  .rw [hc] at e;cases e;exact kn i x g hx hh e1
  .rw [hc] at e;cases e
 .rcases key i x hx with e|⟨g',hh,e1,_⟩
  .exact k.gua i x hx oO
  .rw [hh];exact kn i x g' hx hh e1
 .rcases key i x hx with e|⟨g,_,_,e|e⟩
  .exact k.ro i x hx oO
  all_goals (rw [hc] at e;cases e)
 .rcases key i x hx with e|⟨g,_,_,e|e⟩
  .exact k.old i x hx oO
  all_goals (rw [hc] at e;cases e)
 .refine k.home i x hx (λe=>?_) (λe=>?_)
  .rcases key i x hx with q|⟨g,_,q|q,_⟩
   .exact hc (q.trans e)
   all_goals (rw [e] at q;cases q)
  .rcases key i x hx with q|⟨g,_,q|q,_⟩
   .exact hco (q.trans e)
   all_goals (rw [e] at q;cases q)
theorem TR.join{B:Nat}(k:TR a b st dn cl h t)(hst:st 0){z:MemOp}(hz0:z.g=0)(hz:z.act=.mark (.acquire b))(hd:Deaf t 0=0)(hall:∀i g,t.g? i=some g->g≠0->dn g)
  (hab:MemAct.mark (.acquire b)≠.mark (.release a)) (hlow:∀op∈t++#[z],op.act.low B):Past (λl=>cl l=.shr\/cl l=.old) B (t++#[z]):=by
 have hn:z.act.touch?=none:=by rw [hz];rfl
 have hb:=k.still hn (by rw [hz];exact hab) (by rw [hz];simp) (by rw [hz0];exact hst)
 have kn:∀i x,touchAt (t++#[z]) i=some x->cl x.loc≠.shr->cl x.loc≠.old->Knows (t++#[z]) 0 i:=by
  intro i x hx h1 h2;rcases zb8 hx with ⟨hi,hx'⟩|⟨rfl,hx'⟩
  .rcases k.home i x hx' h1 h2 with e|e|⟨g,e1,e2⟩
   .exact e.app _
   .have:=zop k.nrb hz (by rw [hz0];exact hd) e;rw [hz0] at this;exact this
   .have hg:g=0:=Classical.byContradiction λhg=>e2 (hall i g e1 hg);subst hg;obtain⟨w,hw,hwg⟩:=kan.1 e1;have:=(knows_own hw).app #[z];rw [hwg] at this;exact this
  .rw [hn] at hx';cases hx'
 refine⟨hb.nr,λi x hx hmm=>?_,λi g hg hne hc=>?_,?_,hlow⟩
 .by_cases h1:cl x.loc=.shr
  .rcases(hb.shr i x hx h1).1 with e|⟨_,e⟩
   .exact .inr ⟨.inl h1,e⟩
   .obtain⟨q,hq,hqg⟩:=kan.1 e;have:=knows_own hq;rw [hqg] at this;exact .inl this
  .by_cases h2:cl x.loc=.old
   .exact((hb.old i x hx h2).1 hmm).imp id λe=>⟨.inr h2,e⟩
   .exact .inl (kn i x hx h1 h2)
 .obtain⟨x,hx,hmem,hkind⟩:=hc;have hx':touchAt (t++#[z]) i=some x:=hx;by_cases h1:cl x.loc=.shr
  .obtain⟨e1,e2|e2|e2⟩:=hb.shr i x hx' h1
   .rcases hkind with q|q
    .rcases e1 with e1|⟨_,e1⟩
     .exact absurd e1 q
     .rw [hg] at e1;cases e1;exact absurd rfl hne
    .exact absurd q e2
   .rw [hg] at e2;cases e2;exact absurd rfl hne
   .exact e2
  .by_cases h2:cl x.loc=.old
   .exact(hb.old i x hx' h2).2 g hg hne ⟨x,hx,hmem,hkind⟩
   .obtain⟨q,w,hw,hwg,hbf⟩:=kn i x hx' h1 h2;rcases hbf with rfl|hhb
    .have:(t++#[z]).g? i=some w.g:=g?_of hw;rw [hg,hwg] at this;cases this
     exact absurd rfl hne
    .exact⟨q,by rw [g?_of hw,hwg],hhb⟩
 .rw [Deaf_push];simp [deafStep,hz,hd]
theorem TR.undone{dn':Nat->Prop}(k:TR a b st dn cl h t)(hd:∀g,dn' g->dn g):TR a b st dn' cl h t :=
 ⟨k.nr,k.shr,k.pri,k.gua,k.ro,k.old,λi x hx h1 h2=>(k.home i x hx h1 h2).imp id λe=>e.imp id λ⟨g,h1,h2⟩=>⟨g,h1,λh=>h2 (hd g h)⟩,k.nra,k.nrb⟩
theorem TR.congr{st' dn':Nat->Prop}{cl':Loc->Cls}(k:TR a b st dn cl h t)(h1:∀g,st' g↔st g)(h2:∀g,dn' g↔dn g)(h3:∀l,cl' l=cl l):TR a b st' dn' cl' h t:=by have e1:st'=st:=funext λg=>propext (h1 g);have e2:dn'=dn:=funext λg=>propext (h2 g);have e3:cl'=cl:=funext h3;rw [e1,e2,e3];exact k
theorem TR.begin{Shun:Loc->Prop}{B:Nat}(hP:Past Shun B t)(ha:B<=a.block)(hb:B<=b.block)(cl:Loc->Cls)
  (hcl:∀i x,touchAt t i=some x->(Shun x.loc\/x.loc.isMemory=false->cl x.loc=.old)/\(cl x.loc=.pri 0\/cl x.loc=.gua\/cl x.loc=.ro\/cl x.loc=.old)) :
  TR a b (λg=>g=0) (λg=>g≠0) cl none t:=by
 have nr:∀c:Addr,B<=c.block->NoRelease c t:=λc hc i hi=>by obtain⟨op,ho,hoa⟩:=kan.1 hi;have:=hP.seen op (kbl ho);rw [hoa] at this;have:c.block<B:=this;omega
 have kn:∀i x,touchAt t i=some x->cl x.loc≠.old->Knows t 0 i:=λi x hx hc=>by
  have h:=(hcl i x hx).1;have hm:x.loc.isMemory=true:=by
   cases hmm:x.loc.isMemory with
   | true=>rfl
   | false=>exact absurd (h (.inr hmm)) hc
  rcases hP.known i x hx hm with e|⟨e,_⟩
  .exact e
  .exact absurd (h (.inl e)) hc
 refine⟨hP.clean,λi x hx hc=>?_,λi x g hx hc=>?_,λi x hx hc=>.inl λg hg=>?_,λi x hx hc _ g hg=>?_,λi x hx hc=>⟨λhm=>(hP.known i x hx hm).imp id And.right,λg h1 h2 h3=>hP.over i g h1 h2 h3⟩,
  λi x hx _ hc=>.inl (kn i x hx hc),nr a ha,nr b hb⟩
 .rcases(hcl i x hx).2 with e|e|e|e<;>(rw [hc] at e;cases e)
 .rcases(hcl i x hx).2 with e|e|e|e
  .rw [hc] at e;cases e;exact kn i x hx (by rw [hc];simp)
  all_goals (rw [hc] at e;cases e)
 .rw [hg];exact kn i x hx (by rw [hc];simp)
 .rw [hg];exact kn i x hx (by rw [hc];simp)
end
end Go.Kp
namespace Go.Kp
open Go Go.Conc
open Go.ConcN (sumTo upd sumTo_upd upd_ne upd_same)
structure Sys where
 Gh:Type
 Th:Type
 th:Gh->Nat->Th
 own:Gh->Nat->Nat->Prop
 wt:Gh->Nat->Prop
 rk:Gh->Nat
 Ob:Type
 ob:Gh->Nat->Ob
 nx:Gh->Nat
 cap:Nat
 over:Th->Prop
 df:Th->Nat
 ro:Nat->Prop
 GI:Gh->World->Trace->Prop
structure zay(O:Nat->Prop)(w0 w:World):Prop where
 tape:w.tape=w0.tape
 output:w.output=w0.output
 os:ConcM.OsLater w0.os w.os
 size:w0.heap.size<=w.heap.size
 heap:∀b,b<w0.heap.size->O b->w.heap[b]?=w0.heap[b]?
theorem zay.refl(O:Nat->Prop)(w:World):zay O w w:=⟨rfl,rfl,.refl _,kac _,λ_ _ _=>rfl⟩
theorem zay.trans{O:Nat->Prop}{a b c:World}(h:zay O a b)(k:zay O b c):zay O a c :=
 ⟨k.tape.trans h.tape,k.output.trans h.output,h.os.trans k.os,kak h.size k.size,λx hx ho=>(k.heap x (kaf hx h.size) ho).trans (h.heap x hx ho)⟩
theorem zay.at{O:Nat->Prop}{a b:World}(h:zay O a b)(d:Nat):zay O a (b.at d):=⟨h.tape,h.output,h.os,h.size,h.heap⟩
theorem zay.mono{O O':Nat->Prop}{a b:World}(h:zay O a b)(ho:∀x,O' x->O x):zay O' a b:=⟨h.tape,h.output,h.os,h.size,λx hx hx'=>h.heap x hx (ho x hx')⟩
namespace Sys
variable(S:Sys)
structure Keeps(i:Nat)(gh:S.Gh)(w:World)(gh':S.Gh)(w':World)(wk:Bool):Prop where
 th:∀j,j≠i->S.th gh' j=S.th gh j
 own:∀j,j≠i->j<S.nx gh->S.own gh' j=S.own gh j
 sees:∀j,j≠i->j<S.nx gh->zay (λb=>S.own gh j b\/S.ro b) w w'
 rk:∀j,(i=0->j≠0)->S.rk gh'<=S.rk gh/\(S.rk gh'=S.rk gh->S.ob gh' j=S.ob gh j)
 wake:∀j,j≠i->j<S.nx gh->S.wt gh j->S.wt gh' j\/wk=true
def now(gh:S.Gh)(i:Nat):Nat×S.Ob:=(S.rk gh,S.ob gh i)
def Le(n' n:Nat×S.Ob):Prop:=n'.1<=n.1/\(n'.1=n.1->n'.2=n.2)
structure Env(i:Nat)(n:Nat×S.Ob)(τ:S.Th)(O:Nat->Prop)(w0:World)(gh:S.Gh)(w1:World):Prop where
 th:S.th gh i=τ
 own:S.own gh i=O
 rk:S.Le (S.now gh i) n
 lt:i<S.nx gh
 sees:zay (λb=>O b\/S.ro b) w0 w1
 gi:∃t,S.GI gh w1 t
def StepOk(P:Program)(i:Nat)(Ch:Nat->S.Gh->Goroutine->World->Prop)(gh:S.Gh)(g:Goroutine)(w:World)(K:S.Gh->Goroutine->World->Prop):Prop :=
 (S.wt gh i/\stepG P (i == 0) g w=.go { g with status:=.blocked } w #[])\/
 (∃gh' g' w' es,stepG P (i == 0) g w=.go g' w' es/\g'.status=.running/\S.nx gh'=S.nx gh/\S.Keeps i gh w gh' w' (mayWake P g)/\
   (S.over (S.th gh' i)->deafBehind (S.df (S.th gh i)) es=S.df (S.th gh' i))/\
   (∀t fn pos,S.GI gh w t->S.GI gh' w' (t++MemOp.ofEvents i fn pos es))/\K gh' g' w')\/
 (i=0/\∃gh' g' child w',stepG P true g w=.spawn g' child w' #[]/\S.nx gh'=S.nx gh+1/\S.Keeps 0 gh w gh' w' false/\
   (∀t fn fn' pos,S.GI gh w t->S.GI gh' w' (t++#[{ g:=0,fn,pos,act:=.go (S.nx gh) },{ g:=S.nx gh,fn:=fn',pos,act:=.start }]))/\Ch (S.nx gh) gh' child w'/\K gh' g' w')
def JT(P:Program)(i:Nat)(Ch:Nat->S.Gh->Goroutine->World->Prop)(Lf:S.Th->(Nat->Prop)->Nat×S.Ob->Goroutine->World->Prop):Tr (S.Gh×World)->Nat×S.Ob->S.Th->(Nat->Prop)->Goroutine->World->Prop
 | .leaf,n,τ,O,g,w=>Lf τ O n g w
 | .node f,n,τ,O,g,w=>g.status=.running/\g.offers=none/\¬S.over τ/\∀gh w1,S.Env i n τ O w gh w1->
  S.StepOk P i Ch gh g w1 λgh' g' w'=>JT P i Ch Lf (f (gh,w1)) (S.now gh' i) (S.th gh' i) (S.own gh' i) g' w'
def LfW(P:Program)(τ:S.Th)(_:Nat->Prop)(_:Nat×S.Ob)(g:Goroutine)(_:World):Prop:=S.over τ/\∃q,QuitsD P q (S.df τ) g
def JW(P:Program)(i:Nat)(n:Nat×S.Ob)(τ:S.Th)(O:Nat->Prop)(g:Goroutine)(w:World):Prop:=∃tr,S.JT P i (λ_ _ _ _=>False) (S.LfW P) tr n τ O g w
def LfS(P:Program)(Post:Value->World->Prop)(Gb:Nat->Prop)(τ:S.Th)(O:Nat->Prop)(n:Nat×S.Ob)(g:Goroutine)(w:World):Prop :=
 ∀gh w1,S.Env 0 n τ O w gh w1->(∀t,S.GI gh w1 t->Past (zja Gb) w1.heap.size t/\∀j,0<j->j<S.nx gh->S.over (S.th gh j))/\FinG P Post Gb g w1/\g.status=.running
structure Ok:Prop where
 at_:∀gh w t d,S.GI gh w t->S.GI gh (w.at d) t
 live:∀gh w t,S.GI gh w t->∃j,j<S.nx gh/\¬S.over (S.th gh j)/\¬S.wt gh j
 cap:∀gh w t,S.GI gh w t->S.nx gh<=S.cap
 num:∀gh w t,S.GI gh w t->∀op∈t,op.g<S.nx gh
 zero:∀gh w t,S.GI gh w t->0<S.nx gh/\¬S.over (S.th gh 0)
 deaf:∀gh w t j,S.GI gh w t->j<S.nx gh->(j=0\/¬S.over (S.th gh j))->Deaf t j=S.df (S.th gh j)
 above:∀gh w t j,S.GI gh w t->S.nx gh<=j->Deaf t j=0
 mute:∀gh w t j fn pos es,S.GI gh w t->0<j->j<S.nx gh->S.over (S.th gh j)->(∀e∈es,Event.mute e=true)->S.GI gh w (t++MemOp.ofEvents j fn pos es)
variable{S}
theorem Keeps.seesAt{i:Nat}{gh gh':S.Gh}{w w':World}{wk:Bool}(k:S.Keeps i gh w gh' w' wk){j:Nat}(hj:j≠i)(hl:j<S.nx gh){w0:World}(h:zay (λb=>S.own gh j b\/S.ro b) w0 w) :
  zay (λb=>S.own gh' j b\/S.ro b) w0 w':=by
 rw [k.own j hj hl];exact h.trans (k.sees j hj hl)
theorem jt_step{P:Program}{i:Nat}{n:Nat×S.Ob}{Ch:Nat->S.Gh->Goroutine->World->Prop}{Lf:S.Th->(Nat->Prop)->Nat×S.Ob->Goroutine->World->Prop}{τ:S.Th}{O:Nat->Prop}{g:Goroutine}{w:World}
  (hrun:g.status=.running) (hof:g.offers=none) (hov:¬S.over τ)
  (h:∀gh w1,S.Env i n τ O w gh w1->S.StepOk P i Ch gh g w1 λgh' g' w'=>∃tr,S.JT P i Ch Lf tr (S.now gh' i) (S.th gh' i) (S.own gh' i) g' w'):∃tr,S.JT P i Ch Lf tr n τ O g w:=by
 have h':∀x:S.Gh×World,∃tr,S.Env i n τ O w x.1 x.2->S.StepOk P i Ch x.1 g x.2 λgh' g' w'=>S.JT P i Ch Lf tr (S.now gh' i) (S.th gh' i) (S.own gh' i) g' w':=by
  rintro⟨gh,w1⟩;by_cases he:S.Env i n τ O w gh w1
  .rcases h gh w1 he with h|⟨gh',g',w',es,h1,h2,h3,h4,h45,h5,tr,h6⟩|⟨hi,gh',g',child,w',h1,h2,h3,h4,h5,tr,h6⟩
   .exact⟨.leaf,λ_=>.inl h⟩
   .exact⟨tr,λ_=>.inr (.inl ⟨gh',g',w',es,h1,h2,h3,h4,h45,h5,h6⟩)⟩
   .exact⟨tr,λ_=>.inr (.inr ⟨hi,gh',g',child,w',h1,h2,h3,h4,h5,h6⟩)⟩
  .exact⟨.leaf,λx=>absurd x he⟩
 obtain⟨f,hf⟩:=Classical.axiomOfChoice h'
 exact⟨.node f,hrun,hof,hov,λgh w1 he=>hf (gh,w1) he⟩
theorem Le.trans{a b c:Nat×S.Ob}(h:S.Le a b)(k:S.Le b c):S.Le a c:=⟨kak h.1 k.1,λe=>by have h1:=h.1;have h2:=k.1;rw [h.2 oc,k.2 oc]⟩
theorem Le.refl(a:Nat×S.Ob):S.Le a a:=⟨kac _,λ_=>rfl⟩
theorem jt_later{P:Program}{i:Nat}{n n':Nat×S.Ob}{Ch:Nat->S.Gh->Goroutine->World->Prop}{Lf:S.Th->(Nat->Prop)->Nat×S.Ob->Goroutine->World->Prop}{tr:Tr (S.Gh×World)}{τ:S.Th}{O:Nat->Prop}{g:Goroutine}{w:World}
  (hLf:∀τ O g w,Lf τ O n g w->Lf τ O n' g w)
  (h:S.JT P i Ch Lf tr n τ O g w) (hn:S.Le n' n):S.JT P i Ch Lf tr n' τ O g w:=by
 cases tr with
 | leaf=>exact hLf _ _ _ _ h
 | node f=>exact⟨h.1,h.2.1,h.2.2.1,λgh w1 he=>h.2.2.2 gh w1 ⟨he.th,he.own,he.rk.trans hn,he.lt,he.sees,he.gi⟩⟩
theorem zmh{P:Program}{n n':Nat×S.Ob}(τ:S.Th)(O:Nat->Prop)(g:Goroutine)(w:World)(h:S.LfW P τ O n g w):S.LfW P τ O n' g w:=h
theorem z0z{P:Program}{Post:Value->World->Prop}{Gb:Nat->Prop}{n n':Nat×S.Ob}(hn:S.Le n' n)(τ:S.Th)(O:Nat->Prop)(g:Goroutine)(w:World)(h:S.LfS P Post Gb τ O n g w):S.LfS P Post Gb τ O n' g w :=
 λgh w1 he=>h gh w1 ⟨he.th,he.own,he.rk.trans hn,he.lt,he.sees,he.gi⟩
section
variable{P:Program}{Post:Value->World->Prop}{Gb:Nat->Prop}
def z3n(gh:S.Gh)(j:Nat)(g x:Goroutine)(φ:Nat):Prop:=(x=g/\φ=1)\/(x={ g with status:=.blocked }/\S.wt gh j/\φ=0)
def Rest(P:Program)(gh:S.Gh)(w:World)(t:Trace)(Ts:Nat->Tr (S.Gh×World))(j:Nat)(x:Goroutine)(φ:Nat):Prop :=
 (S.over (S.th gh j)/\∃q,QuitsD P q (Deaf t j) x/\φ=q*(S.cap+1))\/
 (¬S.over (S.th gh j)/\∃g w0,g.status=.running/\g.offers=none/\z3n gh j g x φ/\S.JT P j (λ_ _ _ _=>False) (S.LfW P) (Ts j) (S.now gh j) (S.th gh j) (S.own gh j) g w0/\zay (λb=>S.own gh j b\/S.ro b) w0 w)
structure MI(gs:Array Goroutine)(w:World)(gh:S.Gh)(t:Trace)(φ:Nat->Nat)(T0:Tr (S.Gh×World))(Ts:Nat->Tr (S.Gh×World)):Prop where
 gi:S.GI gh w t
 nx:S.nx gh=gs.size
 starter:∃g w0 x,gs[0]?=some x/\g.status=.running/\z3n gh 0 g x (φ 0)/\
  S.JT P 0 (λc gh child w=>¬S.over (S.th gh c)/\child.status=.running/\S.JW P c (S.now gh c) (S.th gh c) (S.own gh c) child w) (S.LfS P Post Gb) T0 (S.now gh 0) (S.th gh 0) (S.own gh 0) g w0/\
  zay (λb=>S.own gh 0 b\/S.ro b) w0 w/\(T0=.leaf->x=g)
 rest:∀j x,0<j->gs[j]?=some x->Rest P gh w t Ts j x (φ j)
theorem z3n.woken{gh gh':S.Gh}{j:Nat}{g x:Goroutine}{φ:Nat}(hr:g.status=.running)(ho:g.offers=none)(h:z3n gh j g x φ)(g1:Goroutine){g1':Goroutine}{w':World}(h1:g1'.status=.running)
  (hw:S.wt gh j->S.wt gh' j\/mayWake P g1=true):∃φ',z3n gh' j g (woken P g1 g1' w' x) φ':=by
 rcases h with ⟨rfl,_⟩|⟨rfl,hwt,_⟩
 .exact⟨1,.inl ⟨woken_run hr,rfl⟩⟩
 .by_cases hm:mayWake P g1=true
  .refine⟨1,.inl ⟨?_,rfl⟩⟩;unfold Conc.woken;simp only [hm,h1];cases g
   simp only at hr ho;subst hr ho;rfl
  .refine⟨0,.inr ⟨?_,(hw hwt).resolve_right hm,rfl⟩⟩;unfold Conc.woken;simp [hm]
theorem mi_intro{gs:Array Goroutine}{w:World}{gh:S.Gh}{t:Trace}{T0:Tr (S.Gh×World)}{Ts:Nat->Tr (S.Gh×World)}(B:Nat->Nat->Prop)(gi:S.GI gh w t)(nx:S.nx gh=gs.size)
  (starter:∃φ g w0 x,gs[0]?=some x/\g.status=.running/\z3n gh 0 g x φ/\
    S.JT P 0 (λc gh child w=>¬S.over (S.th gh c)/\child.status=.running/\S.JW P c (S.now gh c) (S.th gh c) (S.own gh c) child w) (S.LfS P Post Gb) T0 (S.now gh 0) (S.th gh 0) (S.own gh 0) g w0/\
    zay (λb=>S.own gh 0 b\/S.ro b) w0 w/\(T0=.leaf->x=g)/\B 0 φ)
  (rest:∀j x,0<j->gs[j]?=some x->∃φ,Rest P gh w t Ts j x φ/\B j φ) :
  ∃φ,MI (P:=P) (Post:=Post) (Gb:=Gb) gs w gh t φ T0 Ts/\∀j,j<gs.size->B j (φ j):=by
 obtain⟨φ0,g,w0,x0,s1,s2,s3,s4,s5,s6,s7⟩:=starter
 have hr:∀j,∃φ,∀x,0<j->gs[j]?=some x->Rest P gh w t Ts j x φ/\B j φ:=by
  intro j;cases hj:gs[j]? with
  | none=>exact⟨0,λx _ h=>by cases h⟩
  | some x =>
    by_cases h0:0<j
    .obtain⟨φ,h⟩:=rest j x h0 hj;exact⟨φ,λy _ hy=>by cases hy;exact h⟩
    .exact⟨0,λ_ h _=>absurd h h0⟩
 obtain⟨ψ,hψ⟩:=Classical.axiomOfChoice hr
 refine⟨λj=>if j=0 then φ0 else ψ j,⟨gi,nx,⟨g,w0,x0,s1,s2,s3,s4,s5,s6⟩,λj x h0 hj=>?_⟩,λj hj=>?_⟩
 .have hne:j≠0:=oc
  simp only [hne,if_false];exact(hψ j x h0 hj).1
 .by_cases hne:j=0
  .subst hne;simpa using s7
  .simp only [hne,if_false];exact(hψ j gs[j] oc (ka2 hj)).2
theorem zvi{φ φ':Nat->Nat}{i c:Nat}:∀{n:Nat},i<n->(∀j,j<n->φ' j<=φ j+1)->φ' i+c<=φ i+1->sumTo n φ'+c<=sumTo n φ+n
 | 0,h,_,_=>oc
 | n+1,h,hb,hc=>by
   simp only [sumTo];have all:∀m,m<=n->sumTo m φ'<=sumTo m φ+m:=by
    intro m;induction m with
    | zero=>intro _;simp [sumTo]
    | succ m ih=>intro hm;simp only [sumTo];have:=ih oc;have:=hb m oc;omega
   rcases kc3.1 h with h|rfl
   .have:=zvi (n:=n) h (λj hj=>hb j oc) hc;have:=hb n oc;omega
   .have:=all i (kac _);omega
theorem phase_run(ok:S.Ok):∀(X:Tr (S.Gh×World)×(Nat->Tr (S.Gh×World))×Nat) (gs:Array Goroutine) (w:World) (sl:Option (Nat×Nat)) (gh:S.Gh) (t:Trace) (φ:Nat->Nat),
  X.2.2=sumTo gs.size φ->MI (P:=P) (Post:=Post) (Gb:=Gb) gs w gh t φ X.1 X.2.1->Fin P Post (crowd gs w sl) t:=by
 intro X
 induction X using (zzi (Tr.wf (S.Gh×World)) S.cap).induction with
 | _ X ih =>
 obtain⟨T0,Ts,num⟩:=X
 intro gs w sl gh t φ hnum hM
 simp only at hnum hM
 obtain⟨gi,hnx,⟨g0,w00,x0,hx0,hg0,hst0,hJ0,hse0,hlf0⟩,rest⟩:=hM
 have h0lt:0<gs.size:=(kad.1 hx0).1
 cases T0 with
 | leaf =>
   have e:x0=g0:=hlf0 rfl;subst e;obtain⟨h1,h2,_⟩:=hJ0 gh w ⟨rfl,rfl,Le.refl _,oc,hse0,t,gi⟩;obtain⟨hp,hall⟩:=h1 t gi;have hqs:∀j,∃q,∀x,0<j->gs[j]?=some x->QuitsD P q (Deaf t j) x:=λj=>by
    cases hj:gs[j]? with
    | none=>exact⟨0,λx _ h=>by cases h⟩
    | some x =>
      by_cases h0:0<j
      .have hov:=hall j h0 (by rw [hnx];exact(kad.1 hj).1);rcases rest j x h0 hj with ⟨_,q,hq,_⟩|⟨hn,_⟩
       .exact⟨q,λy _ hy=>by cases hy;exact hq⟩
       .exact absurd hov hn
      .exact⟨0,λ_ h _=>absurd h h0⟩
   obtain⟨q,hq⟩:=Classical.axiomOfChoice hqs;exact h2 gs sl t q hx0 ⟨λj x hj hx=>hq j x hj hx,λj hj=>ok.above gh w t j gi oc⟩ hp (λop hop=>by rw [<-hnx];exact ok.num gh w t gi op hop)
 | node f0 =>
 obtain⟨_,hof0,hov0,hstep0⟩:=hJ0
 have haw:∀g∈gs,awake g:=by
  intro g hg;obtain⟨i,hi,rfl⟩:=kcs.1 hg;have hgi:gs[i]?=some gs[i]:=ka2 hi;rcases kbj i with rfl|hpos
  .rw [hx0] at hgi;rw [<-Option.some.inj hgi];rcases hst0 with ⟨rfl,_⟩|⟨rfl,_⟩
   .exact awake_of (.inl hg0)
   .exact awake_of (.inr (.inl rfl))
  .rcases rest i _ hpos hgi with ⟨_,q,hq,_⟩|⟨_,g,w0,hg,_,hst,_⟩
   .exact awake_of (hq.status.elim .inl λx=>.inr (.inr x))
   .rcases hst with ⟨e,_⟩|⟨e,_⟩
    .rw [e];exact awake_of (.inl hg)
    .rw [e];exact awake_of (.inr (.inl rfl))
 have some1:∃(i:Nat) (g:Goroutine),gs[i]?=some g/\g.status=.running:=by
  obtain⟨j,hj,hno,hnw⟩:=ok.live gh w t gi;rcases kbj j with rfl|hpos
  .refine⟨0,x0,hx0,?_⟩;rcases hst0 with ⟨rfl,_⟩|⟨_,hw,_⟩
   .exact hg0
   .exact absurd hw hnw
  .have hlt:j<gs.size:=oc
   refine⟨j,gs[j],ka2 hlt,?_⟩;rcases rest j _ hpos (ka2 hlt) with ⟨ho,_⟩|⟨_,g,w0,hg,_,hst,_⟩
   .exact absurd ho hno
   .rcases hst with ⟨e,_⟩|⟨_,hw,_⟩
    .rw [e];exact hg
    .exact absurd hw hnw
 obtain⟨i,g1,d,sl',hi,hg1,hst⟩:=crowd_pick (P:=P) (w:=w) (sl:=sl) haw some1
 have hil:i<gs.size:=(kad.1 hi).1
 have gi':S.GI gh (w.at d) t:=ok.at_ _ _ _ _ gi
 rcases kbj i with rfl|hpos
 ·
  obtain rfl:x0=g1:=by rw [hx0] at hi;exact kaw hi
  have hxg:x0=g0/\φ 0=1:=by
   rcases hst0 with h|⟨rfl,_⟩
   .exact h
   .cases hg1
  obtain⟨rfl,hφ0⟩:=hxg;rcases hstep0 gh (w.at d) ⟨rfl,rfl,Le.refl _,oc,hse0.at d,t,gi'⟩ with ⟨hwt,hs⟩|⟨gh',g',w',es,hs,hr',hnx',hk,_,hgi,hJ⟩|⟨_,gh',g',child,w',hs,hnx',hk,hgi,⟨hcov,hcr,trc,hJc⟩,hJ⟩
  ·
   have hrunT:=runT_crowd_go (P:=P) (sl:=sl') (i:=0) hi hs;have hmap:gs.map (woken P x0 { x0 with status:=.blocked } (w.at d))=gs:=by
    apply kce;intro j;rw [kbe];cases gs[j]? with
    | none=>rfl
    | some y=>simp [woken]
   rw [hmap] at hrunT;have e0:MemOp.ofEvents 0 x0.frame.fn x0.frame.place #[]=#[]:=rfl;rw [e0] at hrunT;refine Fin.next (hst.trans hrunT) ?_;have hsz:(gs.setIfInBounds 0 { x0 with status:=.blocked }).size=gs.size:=od
   refine ih ⟨.node f0,Ts,sumTo gs.size (upd φ 0 0)⟩ (.inr ⟨rfl,.inr ⟨rfl,?_⟩⟩) _ (w.at d) sl' gh _ (upd φ 0 0) (by rw [hsz]) ?_
   .have:sumTo gs.size (upd φ 0 0)+φ 0=sumTo gs.size φ+0:=sumTo_upd φ 0 id h0lt;simp only;omega
   .refine⟨by rw [ka4];exact gi',by rw [hsz];exact hnx,⟨x0,w00,{ x0 with status:=.blocked },by simp [h0lt],hg0,.inr ⟨rfl,hwt,upd_same _ _ _⟩,⟨hg0,hof0,hov0,hstep0⟩,hse0.at d,(λh=>by cases h)⟩,λj x hj hx=>?_⟩;have hne:0≠j:=oc
    rw [kal hne] at hx;rw [upd_ne _ _ (Ne.symm hne),ka4];rcases rest j x hj hx with h|⟨hn,g,w0,a1,a2,a3,a4,a5⟩
    .exact .inl h
    .exact .inr ⟨hn,g,w0,a1,a2,a3,a4,a5.at d⟩
  .have hrunT:=runT_crowd_go (P:=P) (sl:=sl') (i:=0) hi hs;refine Fin.next (hst.trans hrunT) ?_;have hsz:((gs.map (woken P x0 g' w')).setIfInBounds 0 g').size=gs.size:=od
   obtain⟨φ',hM,_⟩:=mi_intro (P:=P) (Post:=Post) (Gb:=Gb) (gs:=(gs.map (woken P x0 g' w')).setIfInBounds 0 g') (w:=w') (gh:=gh') (T0:=f0 (gh,w.at d)) (Ts:=Ts)
    (λ_ _=>True) (hgi t x0.frame.fn x0.frame.place gi') (by rw [hnx',hsz];exact hnx)
    ⟨1,g',w',g',by simp [h0lt],hr',.inl ⟨rfl,rfl⟩,hJ,zay.refl _ _,λ_=>rfl,trivial⟩ (λj x hj hx=>by
      have hne:0≠j:=oc
      rw [kal hne,kbe] at hx;obtain⟨y,hy,rfl⟩:=kan.1 hx;have hjl:j<S.nx gh:=by rw [hnx];exact(kad.1 hy).1
      rcases rest j y hj hy with ⟨ho,q,hq,hqe⟩|⟨hn,g,w0,a1,a2,a3,a4,a5⟩
      .exact⟨φ j,.inl ⟨by rw [hk.th j (Ne.symm hne)];exact ho,q,by rw [woken_quitsD hq,Deaf_other t (g':=0) oc _ (λop hop=>by obtain⟨e,_,rfl⟩:=Conc.mem_ofEvents hop;rfl)];exact hq,hqe⟩,trivial⟩
      .obtain⟨φj,hst'⟩:=z3n.woken a1 a2 a3 x0 (g1':=g') (w':=w') hr' (hk.wake j (Ne.symm hne) hjl);exact⟨φj,.inr ⟨by rw [hk.th j (Ne.symm hne)];exact hn,g,w0,a1,a2,hst',by rw [hk.th j (Ne.symm hne),hk.own j (Ne.symm hne) hjl];exact jt_later (λ_ _ _ _=>zmh _ _ _ _) a4 (hk.rk j λ_=>Ne.symm hne),hk.seesAt (Ne.symm hne) hjl (a5.at d)⟩,trivial⟩)
   exact ih ⟨f0 (gh,w.at d),Ts,sumTo _ φ'⟩ (.inl (.mk f0 _)) _ w' sl' gh' _ φ' rfl hM
  .have hrunT:=runT_crowd_spawn (P:=P) (sl:=sl') (i:=0) hi hs;refine Fin.next (hst.trans hrunT) ?_;have hops:((MemOp.ofEvents 0 x0.frame.fn x0.frame.place #[]).push { g:=0,fn:=x0.frame.fn,pos:=x0.frame.place,act:=.go gs.size } |>.push { g:=gs.size,fn:=child.frame.fn,pos:=x0.frame.place,act:=.start }) =
     #[{ g:=0,fn:=x0.frame.fn,pos:=x0.frame.place,act:=.go (S.nx gh) },{ g:=S.nx gh,fn:=child.frame.fn,pos:=x0.frame.place,act:=.start }]:=by rw [hnx];rfl
   rw [hops];have hsz:((gs.setIfInBounds 0 g').push child).size=gs.size+1:=od
   have hdf:∀j,Deaf (t++#[{ g:=0,fn:=x0.frame.fn,pos:=x0.frame.place,act:=.go (S.nx gh) },{ g:=S.nx gh,fn:=child.frame.fn,pos:=x0.frame.place,act:=.start }]) j=Deaf t j:=by
    intro j;have e:t++#[({ g:=0,fn:=x0.frame.fn,pos:=x0.frame.place,act:=.go (S.nx gh) }:MemOp),{ g:=S.nx gh,fn:=child.frame.fn,pos:=x0.frame.place,act:=.start }] =
     (t++#[{ g:=0,fn:=x0.frame.fn,pos:=x0.frame.place,act:=.go (S.nx gh) }])++#[{ g:=S.nx gh,fn:=child.frame.fn,pos:=x0.frame.place,act:=.start }]:=by apply kd8;simp
    rw [e,Deaf_push,Deaf_push];rfl
   obtain⟨φ',hM,_⟩:=mi_intro (P:=P) (Post:=Post) (Gb:=Gb) (gs:=(gs.setIfInBounds 0 g').push child) (w:=w') (gh:=gh') (T0:=f0 (gh,w.at d)) (Ts:=upd Ts (S.nx gh) trc)
    (λ_ _=>True) (hgi t x0.frame.fn child.frame.fn x0.frame.place gi') (by rw [hnx',hsz,hnx])
    ⟨1,g',w',g',by rw [kdr (oa h0lt)];simp,by
       cases htr:f0 (gh,w.at d) with
       | leaf=>rw [htr] at hJ;exact(hJ gh' w' ⟨rfl,rfl,Le.refl _,oc,zay.refl _ _,_,hgi t x0.frame.fn child.frame.fn x0.frame.place gi'⟩).2.2
       | node f=>rw [htr] at hJ;exact hJ.1,.inl ⟨rfl,rfl⟩,hJ,zay.refl _ _,λ_=>rfl,trivial⟩ (λj x hj hx=>by
      have hne:0≠j:=oc
      by_cases hjc:j=gs.size
      .subst hjc;have:x=child:=by
         have hgs:(gs.setIfInBounds 0 g').size=gs.size:=od
         rw [<-hgs,Array.getElem?_push_size] at hx;exact(kaw hx).symm
       subst this;refine⟨1,.inr ⟨by rw [<-hnx];exact hcov,x,w',hcr,?_,.inl ⟨rfl,rfl⟩,by rw [<-hnx,upd_same];exact hJc,zay.refl _ _⟩,trivial⟩;cases trc with
       | leaf=>exact absurd hJc.1 hcov
       | node f=>exact hJc.2.1
      .have hjl:j<gs.size:=by
          have:=(kad.1 hx).1;rw [hsz] at this;omega
       rw [kdr (oa hjl)] at hx;have hy:gs[j]?=some x:=by rw [ka2 hjl];rw [Array.getElem_setIfInBounds_ne (oa hjl) hne] at hx;exact hx
       have hjn:j<S.nx gh:=oc
       rcases rest j x hj hy with ⟨ho,q,hq,hqe⟩|⟨hn,g,w0,a1,a2,a3,a4,a5⟩
       .exact⟨φ j,.inl ⟨by rw [hk.th j (Ne.symm hne)];exact ho,q,by rw [hdf];exact hq,hqe⟩,trivial⟩
       .refine⟨φ j,.inr ⟨by rw [hk.th j (Ne.symm hne)];exact hn,g,w0,a1,a2,?_,by rw [hk.th j (Ne.symm hne),hk.own j (Ne.symm hne) hjn,upd_ne _ _ oc];exact jt_later (λ_ _ _ _=>zmh _ _ _ _) a4 (hk.rk j λ_=>Ne.symm hne),hk.seesAt (Ne.symm hne) hjn (a5.at d)⟩,trivial⟩;rcases a3 with h|⟨h1,h2,h3⟩
        .exact .inl h
        .exact .inr ⟨h1,(hk.wake j (Ne.symm hne) hjn h2).resolve_right od,h3⟩)
   exact ih ⟨f0 (gh,w.at d),upd Ts (S.nx gh) trc,sumTo _ φ'⟩ (.inl (.mk f0 _)) _ w' sl' gh' _ φ' rfl hM
 ·
  have hi0:(i == 0)=false:=by simp;omega
  have hne0:i≠0:=oc
  have hin:i<S.nx gh:=oc
  have dOther:∀(es:Array Event) (j:Nat),j≠i->Deaf (t++MemOp.ofEvents i g1.frame.fn g1.frame.place es) j=Deaf t j:=λes j hj =>
   Deaf_other t (g':=i) (Ne.symm hj) _ (λop hop=>by obtain⟨e,_,rfl⟩:=Conc.mem_ofEvents hop;rfl)
  rcases rest i g1 hpos hi with ⟨hov,q,hq,hqe⟩|⟨hn,g,w0,a1,a2,a3,a4,a5⟩
  ·
   cases q with
   | zero=>rw [hq.1] at hg1;cases hg1
   | succ k =>
     rcases hq with ⟨hf,_⟩|⟨_,g',es,hm,hstp,hq'⟩
     .rw [hf] at hg1;cases hg1
     have hrunT:=runT_crowd_go (P:=P) (sl:=sl') (i:=i) hi (by rw [hi0];exact hstp (w.at d));have hsz:((gs.map (woken P g1 g' (w.at d))).setIfInBounds i g').size=gs.size:=od
     have hr':g'.status=.running\/g'.status=.finished:=hq'.status;have hnb:g'.status≠.blocked:=by rcases hr' with e|e<;>rw [e]<;>simp
     have wk:∀(j:Nat) (g x:Goroutine) (m:Nat),g.status=.running->g.offers=none->z3n gh j g x m->∃m',m'<=m+1/\z3n gh j g (woken P g1 g' (w.at d) x) m':=by
      intro j g x m hr ho h;rcases h with ⟨rfl,rfl⟩|⟨rfl,hwt,rfl⟩
      .exact⟨1,oc,.inl ⟨woken_run hr,rfl⟩⟩
      .unfold Conc.woken;split
       .refine⟨1,oc,.inl ⟨?_,rfl⟩⟩;cases g
        simp only at hr ho;subst hr ho;rfl
       .exact⟨0,oc,.inr ⟨rfl,hwt,rfl⟩⟩
     refine Fin.next (hst.trans hrunT) ?_;obtain⟨m0,hm0,hst0'⟩:=wk 0 g0 x0 (φ 0) hg0 hof0 hst0;obtain⟨φ',hM,hB⟩:=mi_intro (P:=P) (Post:=Post) (Gb:=Gb) (gs:=(gs.map (woken P g1 g' (w.at d))).setIfInBounds i g') (w:=w.at d) (gh:=gh) (T0:=.node f0) (Ts:=Ts)
      (λj m=>m<=φ j+1/\(j=i->m+(S.cap+1)<=φ j)) (ok.mute gh (w.at d) t i _ _ es gi' hpos hin hov hm) (by rw [hsz];exact hnx)
      ⟨m0,g0,w00,_,by rw [kal hne0,kbe,hx0];rfl,hg0,hst0',⟨hg0,hof0,hov0,hstep0⟩,hse0.at d,(λh=>by cases h),hm0,λh=>absurd h.symm hne0⟩ (λj x hj hx=>by
       by_cases hji:j=i
       .subst hji;rw [kbm (oa hil)] at hx;obtain rfl:=kaw hx
        have e1:(k+1)*(S.cap+1)=k*(S.cap+1)+(S.cap+1):=kct _ _;exact⟨k*(S.cap+1),.inl ⟨hov,k,by rw [Deaf_own];exact hq',rfl⟩,by rw [hqe,e1];omega,λ_=>by rw [hqe,e1];exact kac _⟩
       .rw [kal (Ne.symm hji),kbe] at hx;obtain⟨y,hy,rfl⟩:=kan.1 hx;rcases rest j y hj hy with ⟨ho,q,hq,hqe⟩|⟨hn,g,w0,a1,a2,a3,a4,a5⟩
        .exact⟨φ j,.inl ⟨ho,q,by rw [woken_quitsD hq,dOther _ _ hji];exact hq,hqe⟩,oc,λh=>absurd h hji⟩
        .obtain⟨m,hm,hst'⟩:=wk j g y (φ j) a1 a2 a3;exact⟨m,.inr ⟨hn,g,w0,a1,a2,hst',a4,a5.at d⟩,hm,λh=>absurd h hji⟩)
     rw [hsz] at hB;refine ih ⟨.node f0,Ts,sumTo gs.size φ'⟩ (.inr ⟨rfl,.inr ⟨rfl,?_⟩⟩) _ (w.at d) sl' gh _ φ' (by rw [hsz]) hM;have h1:=zvi (φ:=φ) (φ':=φ') (c:=S.cap+1) hil (λj hj=>(hB j hj).1) (by have:=(hB i hil).2 rfl;omega);have h2:=ok.cap gh w t gi;simp only;omega
  .have hxg:g1=g/\φ i=1:=by
      rcases a3 with h|⟨rfl,_⟩
      .exact h
      .cases hg1
   obtain⟨rfl,hφi⟩:=hxg;cases hTi:Ts i with
   | leaf=>rw [hTi] at a4;exact absurd a4.1 hn
   | node fi =>
   rw [hTi] at a4;obtain⟨_,hofi,hovi,hstepi⟩:=a4;have hsub:Tr.Sub (fi (gh,w.at d)) (Ts i):=by rw [hTi];exact .mk fi _
   rcases hstepi gh (w.at d) ⟨rfl,rfl,Le.refl _,hin,a5.at d,t,gi'⟩ with ⟨hwt,hs⟩|⟨gh',g',w',es,hs,hr',hnx',hk,hdf,hgi,hJ⟩|⟨h0,_⟩
   ·
    have hrunT:=runT_crowd_go (P:=P) (sl:=sl') (i:=i) hi hs;have hmap:gs.map (woken P g1 { g1 with status:=.blocked } (w.at d))=gs:=by
     apply kce;intro j;rw [kbe];cases gs[j]? with
     | none=>rfl
     | some y=>simp [woken]
    rw [hmap] at hrunT;have e0:MemOp.ofEvents i g1.frame.fn g1.frame.place #[]=#[]:=rfl;rw [e0] at hrunT;refine Fin.next (hst.trans hrunT) ?_;have hsz:(gs.setIfInBounds i { g1 with status:=.blocked }).size=gs.size:=od
    refine ih ⟨.node f0,Ts,sumTo gs.size (upd φ i 0)⟩ (.inr ⟨rfl,.inr ⟨rfl,?_⟩⟩) _ (w.at d) sl' gh _ (upd φ i 0) (by rw [hsz]) ?_
    .have:sumTo gs.size (upd φ i 0)+φ i=sumTo gs.size φ+0:=sumTo_upd φ 0 id hil;simp only;omega
    .refine⟨by rw [ka4];exact gi',by rw [hsz];exact hnx,⟨g0,w00,x0,by rw [kal hne0];exact hx0,hg0,by rw [upd_ne _ _ (Ne.symm hne0)];exact hst0,⟨hg0,hof0,hov0,hstep0⟩,hse0.at d,(λh=>by cases h)⟩,λj x hj hx=>?_⟩;rw [ka4];by_cases hji:j=i
     .subst hji;rw [kbm hil] at hx;obtain rfl:=kaw hx
      exact .inr ⟨hn,g1,w0,a1,a2,.inr ⟨rfl,hwt,upd_same _ _ _⟩,by simp only [hTi];exact⟨a1,hofi,hovi,hstepi⟩,a5.at d⟩
     .rw [kal (Ne.symm hji)] at hx;rw [upd_ne _ _ hji];rcases rest j x hj hx with h|⟨hn,g,w0,b1,b2,b3,b4,b5⟩
      .exact .inl h
      .exact .inr ⟨hn,g,w0,b1,b2,b3,b4,b5.at d⟩
   .have hrunT:=runT_crowd_go (P:=P) (sl:=sl') (i:=i) hi hs;refine Fin.next (hst.trans hrunT) ?_;have hsz:((gs.map (woken P g1 g' w')).setIfInBounds i g').size=gs.size:=od
    have h0n:0≠i:=Ne.symm hne0;have h0l:0<S.nx gh:=oc
    obtain⟨φ0',hst0'⟩:=z3n.woken hg0 hof0 hst0 g1 (g1':=g') (w':=w') hr' (hk.wake 0 h0n h0l)
    obtain⟨φ',hM,_⟩:=mi_intro (P:=P) (Post:=Post) (Gb:=Gb) (gs:=(gs.map (woken P g1 g' w')).setIfInBounds i g') (w:=w') (gh:=gh') (T0:=.node f0) (Ts:=upd Ts i (fi (gh,w.at d)))
     (λ_ _=>True) (hgi t g1.frame.fn g1.frame.place gi') (by rw [hnx',hsz];exact hnx)
     ⟨φ0',g0,w00,_,by rw [kal hne0,kbe,hx0];rfl,hg0,hst0',by
         rw [hk.th 0 h0n,hk.own 0 h0n h0l];exact jt_later (λ_ _ _ _=>z0z (show S.Le (S.now gh' 0) (S.now gh 0) from hk.rk 0 λh=>absurd h hne0) _ _ _ _) (tr:=.node f0) ⟨hg0,hof0,hov0,hstep0⟩ (hk.rk 0 λh=>absurd h hne0),hk.seesAt h0n h0l (hse0.at d),(λh=>by cases h),trivial⟩ (λj x hj hx=>by
       by_cases hji:j=i
       .subst hji;rw [kbm (oa hil)] at hx;obtain rfl:=kaw hx
        by_cases hov':S.over (S.th gh' j)
        .have hdj:=hdf hov';have hl:∃q,QuitsD P q (S.df (S.th gh' j)) g':=by
           revert hJ;cases fi (gh,w.at d) with
           | leaf=>exactλhJ=>hJ.2
           | node f=>exactλhJ=>absurd hov' hJ.2.2.1
         obtain⟨q,hq⟩:=hl;refine⟨q*(S.cap+1),.inl ⟨hov',q,?_,rfl⟩,trivial⟩;rw [Deaf_own,ok.deaf gh (w.at d) t j gi' hin (.inr hn),hdj];exact hq
        .refine⟨1,.inr ⟨hov',g',w',hr',?_,.inl ⟨rfl,rfl⟩,by rw [upd_same];exact hJ,zay.refl _ _⟩,trivial⟩;revert hJ;cases fi (gh,w.at d) with
         | leaf=>exactλhJ=>absurd hJ.1 hov'
         | node f=>exactλhJ=>hJ.2.1
       .rw [kal (Ne.symm hji),kbe] at hx;obtain⟨y,hy,rfl⟩:=kan.1 hx;have hjl:j<S.nx gh:=by rw [hnx];exact(kad.1 hy).1
        rcases rest j y hj hy with ⟨ho,q,hq,hqe⟩|⟨hn,g,w0,b1,b2,b3,b4,b5⟩
        .exact⟨φ j,.inl ⟨by rw [hk.th j hji];exact ho,q,by rw [woken_quitsD hq,dOther _ _ hji];exact hq,hqe⟩,trivial⟩
        .obtain⟨φj,hst'⟩:=z3n.woken b1 b2 b3 g1 (g1':=g') (w':=w') hr' (hk.wake j hji hjl);exact⟨φj,.inr ⟨by rw [hk.th j hji];exact hn,g,w0,b1,b2,hst',by rw [hk.th j hji,hk.own j hji hjl,upd_ne _ _ hji];exact jt_later (λ_ _ _ _=>zmh _ _ _ _) b4 (hk.rk j λh=>absurd h hne0),hk.seesAt hji hjl (b5.at d)⟩,trivial⟩)
    exact ih ⟨.node f0,upd Ts i (fi (gh,w.at d)),sumTo _ φ'⟩ (.inr ⟨rfl,.inl ⟨i,by have:=ok.cap gh w t gi;omega,by simp only [upd_same];exact hsub,λj hj=>upd_ne _ _ hj⟩⟩) _ w' sl' gh' _ φ' rfl hM
   .omega
end
end Sys
end Go.Kp
namespace Go.Kp
open Go Go.Conc Go.ConcM
open Go.ConcN (sumTo upd sumTo_upd upd_ne upd_same)
structure Par where
 Mu:Nat
 Wg:Nat
 tM:TypeId
 tW:TypeId
 b:Nat
 cap:Nat
 K:Nat->Nat
 ro:Nat->Prop
 Gb:Nat->Prop
 Gd:(Nat->Prop)->(Nat->Nat)->World->Prop
 F:Nat->Nat
structure Thr where
 r:zif
 k:Nat
 d:Nat
 z:Nat
 hd:Bool
 c:Nat
 s:Nat
 a:Nat
 cc:Nat->Nat
structure PG where
 th:Nat->Thr
 bc:Nat->Cls
 h:Option Nat
 wd:Wd
 v:Nat
 ww:Bool
 wT:Nat
 nx:Nat
def fresh(k:Nat):Thr:=⟨.out,k,0,0,false,0,0,0,λ_=>0⟩
def zcv(b nx:Nat)(th:Nat->Thr)(f:Nat->Bool):Nat:=sumTo nx λj=>if b<=j/\f (th j).z=true then 1 else 0
structure zyn(b:Nat)(gh:PG):Prop where
 v:gh.v=zcv b gh.nx gh.th (λz=>decide (z<2))+(gh.th 0).a
 s0:(gh.th 0).s=0->gh.ww=false/\gh.wT=0/\zcv b gh.nx gh.th (λz=>z == 2)=0/\zcv b gh.nx gh.th (λz=>z == 4)=0
 s1:(gh.th 0).s=1->(gh.th 0).a=0/\((0<gh.v/\gh.ww=true/\gh.wT=0/\zcv b gh.nx gh.th (λz=>z == 2)=0/\zcv b gh.nx gh.th (λz=>z == 4)=0)\/
  (gh.v=0/\((gh.ww=true/\gh.wT=0/\zcv b gh.nx gh.th (λz=>z == 2)=1/\zcv b gh.nx gh.th (λz=>z == 4)=0)\/
    (gh.ww=false/\gh.wT=0/\zcv b gh.nx gh.th (λz=>z == 2)=0/\zcv b gh.nx gh.th (λz=>z == 4)=1)\/
    (gh.ww=false/\gh.wT=1/\zcv b gh.nx gh.th (λz=>z == 2)=0/\zcv b gh.nx gh.th (λz=>z == 4)=0))))
 s2:2<=(gh.th 0).s->(gh.th 0).a=0/\gh.v=0/\gh.ww=false/\gh.wT=0/\zcv b gh.nx gh.th (λz=>z == 2)=0/\zcv b gh.nx gh.th (λz=>z == 4)=0
 a1:(gh.th 0).a<=1
def zid(bc:Nat->Cls):Loc->Cls
 | .cell a=>bc a.block
 | .obj r=>bc r
 | _=>.old
def zvk(b nx:Nat)(g:Nat):Prop:=g=0\/(b<=g/\g<nx)
def zkl(b:Nat)(th:Nat->Thr)(g:Nat):Prop:=g≠0/\(g<b\/1<=(th g).z)
structure GI(p:Par)(gh:PG)(w:World)(t:Trace):Prop where
 mu:MuAt p.tM p.Mu w (gh.wd.word:Int) (gh.wd.T:Int)
 wg:ConcR.WgAt p.tW p.Wg w ((gh.v*4294967296+gh.ww.toNat:Nat):Int) (gh.wT:Int)
 li:zuy gh.wd (cnt p.cap λj=>(gh.th j).r)
 wi:zyn p.b gh
 tr:TR (muA p.Mu) (⟨p.Wg,0,none⟩:Addr) (zvk p.b gh.nx) (zkl p.b gh.th) (zid gh.bc) gh.h t
 low:∀op∈t,op.act.low w.heap.size
 gs:∀op∈t,op.g<gh.nx
 deaf:∀j,j<gh.nx->(j=0\/(gh.th j).z≠3)->Deaf t j=(gh.th j).d
 above:∀j,gh.nx<=j->Deaf t j=0
 gd:gh.h=none->p.Gd (λx=>gh.bc x=.gua) (λj=>(gh.th j).c) w
 hd:∀j,gh.h=some j↔(gh.th j).hd=true
 ow:∀j,(gh.th j).hd=true->(gh.th j).r=.owner/\j<gh.nx
 cc:∀j q,(gh.th j).hd=true->q≠j->(gh.th q).c=(gh.th j).cc q
 shr:∀x,gh.bc x=.shr↔x=p.Mu\/x=p.Wg
 ne:p.Mu≠p.Wg
 ro:∀x,gh.bc x=.ro↔p.ro x
 old:∀x,x<w.heap.size->gh.bc x=.old->p.Gb x
 sz:∀x,gh.bc x≠.old->x<w.heap.size
 pri:∀x j,gh.bc x=.pri j->j<gh.nx
 un:∀j,gh.nx<=j->gh.th j=fresh (p.K j)
 lv:∀j,0<j->j<p.b->(gh.th j).z=3
 z1:∀j,0<j->1<=(gh.th j).z->(gh.th j).r=.out
 zs:∀j,0<j->(gh.th j).s=0
 z5:∀j,(gh.th j).z<5
 t0:(gh.th 0).r=.out/\(gh.th 0).z=0
 nx:0<p.b/\p.b<=gh.nx/\gh.nx<=p.cap
 nk:gh.nx+(gh.th 0).k=p.cap
 fc:∀j,p.b<=j->1<=(gh.th j).z->(gh.th j).c=p.F j
 past:3<=(gh.th 0).s->Past (λl=>zid gh.bc l=.shr\/zid gh.bc l=.old) w.heap.size t
def wz(z:Nat):Nat:=if z<2 then 2 else if z=2 then 1 else 0
def rkT(cap:Nat)(th:Nat->Thr)(wd:Wd):Nat:=rank cap (λj=>(th j).r) (λj=>(th j).k) wd+sumTo cap λj=>wz (th j).z
def sys(p:Par):Sys where
 Gh:=PG
 Th:=Thr
 th:=PG.th
 own gh j x:=gh.bc x=.pri j\/(gh.bc x=.gua/\gh.h=some j)
 wt gh j:=((gh.th j).r=.queued/\gh.wd.T=0)\/((gh.th j).s=1/\gh.wT=0)
 rk gh:=rkT p.cap gh.th gh.wd
 Ob:=Nat
 ob gh j:=if j=0 then gh.v*4294967296+gh.ww.toNat else gh.wd.word
 nx:=PG.nx
 cap:=p.cap
 over τ:=τ.z=3
 df:=Thr.d
 ro:=p.ro
 GI:=GI p
def znj(a b:Addr)(cl:Loc->Cls)(h:Option Nat)(g:Nat):Nat->List Event->Prop
 | _,[]=>True
 | d,e::es=>MemAct.ofEvent e≠.mark (.release a)/\MemAct.ofEvent e≠.mark (.release b)/\(∀x,(MemAct.ofEvent e).touch?=some x->May cl h d g x)/\znj a b cl h g (deafBehind d #[e]) es
theorem TR.evs{a b:Addr}{st dn:Nat->Prop}{cl:Loc->Cls}{h:Option Nat}{g:Nat}(hst:st g)(fn:FuncId)(pos:String) :
  ∀(es:List Event) {t:Trace},TR a b st dn cl h t->(¬dn g\/∀e∈es,∀x,(MemAct.ofEvent e).touch?=some x->cl x.loc=.shr)->znj a b cl h g (Deaf t g) es->TR a b st dn cl h (t++MemOp.ofEvents g fn pos es.toArray)
 | [],t,k,_,_=>by have e1:MemOp.ofEvents g fn pos ([]:List Event).toArray=#[]:=rfl;rw [e1,ka4];exact k
 | e::es,t,k,hdn,⟨h1,h2,h3,h4⟩=>by
   have hsplit:t++MemOp.ofEvents g fn pos (e::es).toArray=(t++#[{ g,fn,pos,act:=.ofEvent e }])++MemOp.ofEvents g fn pos es.toArray:=by apply kd8;simp [Conc.ofEvents_eq]
   rw [hsplit];have k1:TR a b st dn cl h (t++#[{ g,fn,pos,act:=.ofEvent e }]):=by
    refine k.push (.inl hst) ?_ h1 h2 h3;rcases hdn with hd|hd
    .exact .inl hd
    .exact .inr (.inr λx hx=>hd e od x hx)
   refine TR.evs hst fn pos es k1 (hdn.imp id λhd e' he'=>hd e' (by simp [he'])) ?_;have e1:MemOp.ofEvents g fn pos #[e]=#[({ g,fn,pos,act:=.ofEvent e }:MemOp)]:=by rw [Conc.ofEvents_eq];simp
   rw [<-e1,Deaf_own];exact h4
structure zuz(p:Par)(i:Nat)(gh:PG)(w:World)(es:Array Event)(gh':PG)(w':World)(wk:Bool):Prop where
 keeps:(sys p).Keeps i gh w gh' w' wk
 gi:∀t fn pos,GI p gh w t->GI p gh' w' (t++MemOp.ofEvents i fn pos es)
 nx:gh'.nx=gh.nx
 df:deafBehind (gh.th i).d es=(gh'.th i).d
theorem GI.st{p:Par}{gh:PG}{w:World}{t:Trace}(h:GI p gh w t){i:Nat}(hi:i<gh.nx)(ho:(gh.th i).z≠3):zvk p.b gh.nx i:=by
 by_cases h0:i=0
 .exact .inl h0
 .by_cases hb:i<p.b
  .exact absurd (h.lv i oc hb) ho
  .exact .inr ⟨oc,hi⟩
theorem zeo{g:Nat}{fn:FuncId}{pos:String}{es:Array Event}{B:Nat}(h:∀e∈es,(MemAct.ofEvent e).low B):∀op∈MemOp.ofEvents g fn pos es,op.act.low B:=by intro op hop;obtain⟨e,he,rfl⟩:=Conc.mem_ofEvents hop;exact h e he
theorem ze9{g:Nat}{fn:FuncId}{pos:String}{es:Array Event}:∀op∈MemOp.ofEvents g fn pos es,op.g=g:=by intro op hop;obtain⟨e,he,rfl⟩:=Conc.mem_ofEvents hop;rfl
theorem zjo{t u:Trace}{B B':Nat}(h:∀op∈t,op.act.low B)(hB:B<=B')(hu:∀op∈u,op.act.low B'):∀op∈t++u,op.act.low B':=λop hop =>
 (kco.1 hop).elim (λh'=>MemAct.low_mono hB (h op h')) (hu op)
theorem zr5{t u:Trace}{n n':Nat}(h:∀op∈t,op.g<n)(hB:n<=n')(hu:∀op∈u,op.g<n'):∀op∈t++u,op.g<n':=λop hop =>
 (kco.1 hop).elim (λh'=>kaf (h op h') hB) (hu op)
theorem zes(t:Trace)(i:Nat)(fn:FuncId)(pos:String)(es:Array Event)(j:Nat):Deaf (t++MemOp.ofEvents i fn pos es) j=if j=i then deafBehind (Deaf t i) es else Deaf t j:=by
 split
 .rename_i h;subst h;exact Deaf_own t j fn pos es
 .rename_i h;exact Deaf_other t (Ne.symm h) _ ze9
theorem zi4{b nx:Nat}{th:Nat->Thr}{f:Nat->Bool}(h:zcv b nx th f=0){j:Nat}(hb:b<=j)(hj:j<nx):f (th j).z=false:=by
 have:=zde nx (λj=>if b<=j/\f (th j).z=true then 1 else 0) j hj;simp only [zcv] at h;rw [h] at this;cases hf:f (th j).z with
 | false=>rfl
 | true=>simp [hb,hf] at this
theorem zyn.over{b:Nat}{gh:PG}(h:zyn b gh)(h5:∀j,(gh.th j).z<5)(hs:2<=(gh.th 0).s){j:Nat}(hb:b<=j)(hj:j<gh.nx):(gh.th j).z=3:=by obtain⟨h1,h2,_,_,h3,h4⟩:=h.s2 hs;have hv:=h.v;rw [h2,h1] at hv;have k1:=zi4 (b:=b) (nx:=gh.nx) (th:=gh.th) (f:=λz=>decide (z<2)) oc hb hj;have k2:=zi4 h3 hb hj;have k3:=zi4 h4 hb hj;have:=h5 j;simp at k1 k2 k3;omega
theorem GI.s_lt{p:Par}{gh:PG}{w:World}{t:Trace}(h:GI p gh w t){i:Nat}(h0:0<i)(hi:i<gh.nx)(ho:(gh.th i).z≠3):(gh.th 0).s<3:=by
 refine Nat.lt_of_not_le λh3=>?_;rcases h.st hi ho with rfl|⟨hb,_⟩
 .omega
 .exact ho (h.wi.over h.z5 oc hb hi)
def EvP(a b:Addr)(cl:Loc->Cls)(h:Option Nat)(g:Nat)(e:Event):Prop :=
 (∀x,(MemAct.ofEvent e).touch?=some x->cl x.loc=.pri g\/(cl x.loc=.gua/\h=some g)\/(cl x.loc=.ro/\x.write=false))/\
  MemAct.ofEvent e≠.mark (.release a)/\MemAct.ofEvent e≠.mark (.release b)/\e.loc≠.mark .disable/\e.loc≠.mark .enable
theorem zkk{a b:Addr}{cl:Loc->Cls}{h:Option Nat}{g:Nat}:∀{es:List Event} {d:Nat},(∀e∈es,EvP a b cl h g e)->znj a b cl h g d es
 | [],_,_=>trivial
 | e::es,d,he=>by
   obtain⟨h1,h2,h3,h4,h5⟩:=he e od;refine⟨h2,h3,λx hx=>?_,zkk λe' he'=>he e' (by simp [he'])⟩;rcases h1 x hx with e|e|e
   .exact .inl e
   .exact .inr (.inl e)
   .exact .inr (.inr (.inl e))
def zdi(i:Nat)(bc:Nat->Cls)(n n':Nat)(x:Nat):Cls:=if n<=x/\x<n' then .pri i else bc x
theorem z6i{i:Nat}{bc:Nat->Cls}{n n':Nat}(l:Loc):zid (zdi i bc n n') l=zid bc l\/∃x,n<=x/\(l=.obj x\/∃a:Addr,l=.cell a/\a.block=x):=by
 cases l with
 | cell a =>
   by_cases h:n<=a.block/\a.block<n'
   .exact .inr ⟨a.block,h.1,.inr ⟨a,rfl,rfl⟩⟩
   .exact .inl (by simp [zid,zdi,h])
 | obj r =>
   by_cases h:n<=r/\r<n'
   .exact .inr ⟨r,h.1,.inl rfl⟩
   .exact .inl (by simp [zid,zdi,h])
 | _=>exact .inl rfl
theorem zq3{op:MemOp}{x:Touch}{B:Nat}(h:op.act.low B)(hx:op.act.touch?=some x):x.loc.low B:=by
 obtain⟨g,fn,pos,act⟩:=op;cases act with
 | access e=>simp only [MemAct.touch?,kap] at hx;subst hx;exact h
 | mark m=>cases m<;>simp only [MemAct.touch?,kap,reduceCtorEq] at hx<;>(subst hx;exact h)
 | _=>simp [MemAct.touch?] at hx
abbrev yp0(p:Par):Prop:=∀(G:Nat->Prop) c w w',(∀x,G x->w'.heap[x]?=w.heap[x]?)->p.Gd G c w->p.Gd G c w'
theorem ybw{p:Par}(hst:yp0 p){i:Nat}{gh:PG}{w w':World}{es:Array Event}{wk:Bool}{t0:Trace}(h0:GI p gh w t0)(hi:i<gh.nx)(ho:(gh.th i).z≠3)(h3:(gh.th 0).s<3)(hz:(gh.th i).z=0\/∀e∈es,(MemAct.ofEvent e).touch?=none)
  (hs:w.heap.size<=w'.heap.size) (htape:w'.tape=w.tape) (hout:w'.output=w.output) (hos:OsLater w.os w'.os)
  (hheap:∀x,x<w.heap.size->¬(sys p).own gh i x->w'.heap[x]?=w.heap[x]?)
  (hev:∀e∈es,EvP (muA p.Mu) ⟨p.Wg,0,none⟩ (zid (zdi i gh.bc w.heap.size w'.heap.size)) gh.h i e) (hlow:∀e∈es,(MemAct.ofEvent e).low w'.heap.size) :
  zuz p i gh w es { gh with bc:=zdi i gh.bc w.heap.size w'.heap.size } w' wk:=by
 have hb:∀x,gh.bc x≠.old->zdi i gh.bc w.heap.size w'.heap.size x=gh.bc x:=λx hx=>by have:=h0.sz x hx;simp only [zdi];rw [if_neg oc]
 have hb2:∀x,x<w.heap.size->zdi i gh.bc w.heap.size w'.heap.size x=gh.bc x:=λx hx=>by simp only [zdi];rw [if_neg oc]
 have hbi:∀x c,zdi i gh.bc w.heap.size w'.heap.size x=c->c≠.pri i->gh.bc x=c:=λx c hx hc=>by
  simp only [zdi] at hx;split at hx
  .exact absurd hx.symm hc
  .exact hx
 have ne_old:∀{x:Nat} {c:Cls},gh.bc x=c->c≠.old->gh.bc x≠.old:=λh hc e=>hc (h.symm.trans e)
 have hother:∀j x,j≠i->((sys p).own gh j x\/p.ro x)->x<w.heap.size/\¬(sys p).own gh i x:=by
  intro j x hj hx;rcases hx with (e|⟨e,e2⟩)|e
  .refine⟨h0.sz x (ne_old e od),?_⟩;rintro(e'|⟨e',_⟩)
   .rw [e] at e';cases e';exact hj rfl
   .rw [e] at e';cases e'
  .refine⟨h0.sz x (ne_old e od),?_⟩;rintro(e'|⟨_,e'⟩)
   .rw [e] at e';cases e'
   .rw [e2] at e';cases e';exact hj rfl
  .have e:=(h0.ro x).2 e;refine⟨h0.sz x (ne_old e od),?_⟩;rintro(e'|⟨e',_⟩)<;>(rw [e] at e';cases e')
 have hshr:∀x,gh.bc x=.shr->w'.heap[x]?=w.heap[x]?:=λx hx=>hheap x (h0.sz x (ne_old hx od)) (by
  rintro(e'|⟨e',_⟩)<;>(rw [hx] at e';cases e'))
 have hdf:∀d,deafBehind d es=d:=λd=>Conc.deafBehind_still (λe he=>⟨(hev e he).2.2.2.1,(hev e he).2.2.2.2⟩) d
 refine⟨⟨λj _=>rfl,λj hj hl=>?_,λj hj hl=>⟨htape,hout,hos,hs,λx hx ho=>hheap x hx (hother j x hj ho).2⟩,λ_ _=>⟨kac _,λ_=>rfl⟩,λj _ _ h=>.inl h⟩,λt fn pos k=>?_,rfl,hdf _⟩
 .funext x;apply propext;constructor
  .rintro(e|⟨e,e2⟩)
   .exact .inl (hbi x _ e (by simp [hj]))
   .exact .inr ⟨hbi x _ e od,e2⟩
  .rintro(e|⟨e,e2⟩)
   .exact .inl ((hb x (ne_old e od)).trans e)
   .exact .inr ⟨(hb x (ne_old e od)).trans e,e2⟩
 .refine { mu:=?_,wg:=?_,li:=k.li,wi:=⟨k.wi.v,k.wi.s0,k.wi.s1,k.wi.s2,k.wi.a1⟩,tr:=?_,low:=zjo k.low hs (zeo hlow),gs:=zr5 k.gs (kac _) λop hop=>by rw [ze9 op hop];exact hi,
           deaf:=λj hj hx=>?_,above:=λj hj=>?_,gd:=λhh=>?_,hd:=k.hd,ow:=k.ow,cc:=k.cc,shr:=λx=>?_,ne:=k.ne,ro:=λx=>?_,old:=λx hx e=>?_,sz:=λx hx=>?_,pri:=λx j e=>?_,
           un:=k.un,lv:=k.lv,z1:=k.z1,zs:=k.zs,z5:=k.z5,t0:=k.t0,nx:=k.nx,nk:=k.nk,fc:=k.fc,past:=λe=>absurd e (Nat.not_le.2 h3) }
  .have:=k.mu;unfold MuAt at this |-;rw [hshr p.Mu ((k.shr _).2 (.inl rfl))];exact this
  .have:=k.wg;unfold ConcR.WgAt at this |-;rw [hshr p.Wg ((k.shr _).2 (.inr rfl))];exact this
  .have hr:TR (muA p.Mu) ⟨p.Wg,0,none⟩ (zvk p.b gh.nx) (zkl p.b gh.th) (zid (zdi i gh.bc w.heap.size w'.heap.size)) gh.h t:=by
     refine k.tr.recl λl=>?_;rcases z6i (i:=i) (bc:=gh.bc) (n:=w.heap.size) (n':=w'.heap.size) l with e|⟨x,hx,hl⟩
     .exact .inl e
     .refine .inr (.inl λq y hy e=>?_);unfold touchAt Trace.act? at hy;cases hop:t[q]? with
      | none=>rw [hop] at hy;cases hy
      | some op =>
        rw [hop] at hy;have hlo:=zq3 (k.low op (kbl hop)) (x:=y) hy;rw [e] at hlo;rcases hl with rfl|⟨a,rfl,rfl⟩
        .have:x<w.heap.size:=hlo;omega
        .have:a.block<w.heap.size:=hlo;omega
   have:=TR.evs (k.st hi ho) fn pos es.toList hr (hz.imp (λhz=>by rintro⟨h1,h2|h2⟩;exact ho (k.lv i oc h2);omega) λhz e he x hx=>by rw [hz e (oa he)] at hx;cases hx) (zkk λe he=>hev e (oa he));simpa using this
  .rw [zes,hdf];split
   .rename_i e;subst e;exact k.deaf j hj hx
   .exact k.deaf j hj hx
  .rw [zes,hdf];split
   .rename_i e;subst e;exact absurd hi (kd6.2 hj)
   .exact k.above j hj
  .have hG:(λx=>zdi i gh.bc w.heap.size w'.heap.size x=.gua)=(λx=>gh.bc x=.gua):=by
     funext x;apply propext;constructor
     .intro e;exact hbi x _ e od
     .intro e;exact(hb x (ne_old e od)).trans e
   rw [hG];have hh':gh.h=none:=hh;refine hst _ _ _ _ (λx hx=>hheap x (k.sz x (ne_old hx od)) ?_) (k.gd hh');rintro(e|⟨_,e⟩)
   .rw [hx] at e;cases e
   .rw [hh'] at e;cases e
  .rw [<-k.shr x];constructor
   .intro e;exact hbi x _ e od
   .intro e;exact(hb x (ne_old e od)).trans e
  .rw [<-k.ro x];constructor
   .intro e;exact hbi x _ e od
   .intro e;exact(hb x (ne_old e od)).trans e
  .by_cases hx':x<w.heap.size
   .exact k.old x hx' (by rw [<-hb2 x hx'];exact e)
   .simp only [zdi] at e;rw [if_pos ⟨oc,hx⟩] at e;cases e
  .by_cases hx':w.heap.size<=x/\x<w'.heap.size
   .exact hx'.2
   .simp only [zdi,hx',if_false] at hx;exact kaf (k.sz x hx) hs
  .by_cases hj:j=i
   .subst hj;exact hi
   .exact k.pri x j (hbi x _ e (by simp [hj]))
theorem zhm{p:Par}(hst:yp0 p){i:Nat}{gh:PG}{w w':World}{es:Array Event}{wk:Bool}{t0:Trace}(h0:GI p gh w t0)(hi:i<gh.nx)(ho:(gh.th i).z≠3)(h3:(gh.th 0).s<3)
  (τ':Thr) (wd':Wd) (v':Nat) (ww':Bool) (wT':Nat) (hhd:τ'.hd=(gh.th i).hd) (hc:τ'.c=(gh.th i).c) (hcc:τ'.cc=(gh.th i).cc)
  (hz1:i≠0->(1<=τ'.z↔1<=(gh.th i).z)) (hz2:0<i->1<=τ'.z->τ'.r=.out) (hz3:0<i->τ'.s=0) (hz4:τ'.z<5) (ht0:i=0->τ'.r=.out/\τ'.z=0/\τ'.s<3) (hk0:i=0->τ'.k=(gh.th i).k) (how:τ'.hd=true->τ'.r=.owner)
  (hmu:MuAt p.tM p.Mu w' (wd'.word:Int) (wd'.T:Int)) (hwg:ConcR.WgAt p.tW p.Wg w' ((v'*4294967296+ww'.toNat:Nat):Int) (wT':Int))
  (hsame:∀x,x≠p.Mu->x≠p.Wg->w'.heap[x]?=w.heap[x]?) (hs:w'.heap.size=w.heap.size) (htape:w'.tape=w.tape) (hout:w'.output=w.output) (hos:OsLater w.os w'.os)
  (hli:zuy wd' (cnt p.cap λj=>(upd gh.th i τ' j).r)) (hwi:zyn p.b { gh with th:=upd gh.th i τ',wd:=wd',v:=v',ww:=ww',wT:=wT' })
  (hev:znj (muA p.Mu) ⟨p.Wg,0,none⟩ (zid gh.bc) gh.h i (gh.th i).d es.toList) (hevs:∀e∈es,∀x,(MemAct.ofEvent e).touch?=some x->zid gh.bc x.loc=.shr) (hlow:∀e∈es,(MemAct.ofEvent e).low w.heap.size)
  (hdf:deafBehind (gh.th i).d es=τ'.d)
  (hrk:rkT p.cap (upd gh.th i τ') wd'+(if wd'.word=gh.wd.word then 0 else 1)<=rkT p.cap gh.th gh.wd) (hrk0:i≠0->rkT p.cap (upd gh.th i τ') wd'=rkT p.cap gh.th gh.wd->v'=gh.v/\ww'=gh.ww)
  (hwk:wk=true\/((gh.wd.T=0->wd'.T=0)/\(gh.wT=0->wT'=0))) :
  zuz p i gh w es { gh with th:=upd gh.th i τ',wd:=wd',v:=v',ww:=ww',wT:=wT' } w' wk:=by
 have shr_ne:∀{x:Nat} {c:Cls},gh.bc x=c->c≠.shr->x≠p.Mu/\x≠p.Wg:=λ{x c} h hc=>by
  constructor
  .intro e;exact hc (h.symm.trans ((h0.shr x).2 (.inl e)))
  .intro e;exact hc (h.symm.trans ((h0.shr x).2 (.inr e)))
 refine⟨⟨λj hj=>upd_ne _ _ hj,λj _ _=>rfl,λj hj hl=>⟨htape,hout,hos,oc,λx _ hx=>?_⟩,λj hj=>⟨kak (Nat.le_add_right _ _) hrk,λe=>?_⟩,λj hj hl h=>?_⟩,λt fn pos k=>?_,rfl,by simp only [upd_same];exact hdf⟩
 .have hx':x≠p.Mu/\x≠p.Wg:=by
    rcases hx with (e|⟨e,_⟩)|e
    .exact shr_ne e od
    .exact shr_ne e od
    .exact shr_ne ((h0.ro x).2 e) od
  exact hsame x hx'.1 hx'.2
 .have e':rkT p.cap (upd gh.th i τ') wd'=rkT p.cap gh.th gh.wd:=e;show(if j=0 then v'*4294967296+ww'.toNat else wd'.word)=(if j=0 then gh.v*4294967296+gh.ww.toNat else gh.wd.word);by_cases hj0:j=0
  .obtain⟨q1,q2⟩:=hrk0 (λhi0=>hj hi0 hj0) e';simp only [hj0,if_true,q1,q2]
  .simp only [hj0,if_false];refine Classical.byContradiction λhne=>?_;rw [if_neg hne] at hrk;omega
 .rcases hwk with hwk|⟨k1,k2⟩
  .exact .inr hwk
  .refine .inl ?_;show((upd gh.th i τ' j).r=.queued/\wd'.T=0)\/((upd gh.th i τ' j).s=1/\wT'=0);rw [upd_ne _ _ hj];exact h.imp (λh=>⟨h.1,k1 h.2⟩) λh=>⟨h.1,k2 h.2⟩
 .have hne:∀j,j≠i->upd gh.th i τ' j=gh.th j:=λj hj=>upd_ne _ _ hj;have hdn:∀g,zkl p.b (upd gh.th i τ') g↔zkl p.b gh.th g:=by
    intro g;by_cases hg:g=i
    .subst hg;unfold zkl;rw [upd_same];constructor
     .rintro⟨a1,a2⟩;exact⟨a1,a2.imp id (hz1 a1).1⟩
     .rintro⟨a1,a2⟩;exact⟨a1,a2.imp id (hz1 a1).2⟩
    .unfold zkl;rw [hne g hg]
  refine { mu:=hmu,wg:=hwg,li:=hli,wi:=hwi,tr:=?_,low:=zjo k.low oc (by rw [hs];exact zeo hlow),gs:=zr5 k.gs (kac _) λop hop=>by rw [ze9 op hop];exact hi,
           deaf:=λj hj hx=>?_,above:=λj hj=>?_,gd:=λhh=>?_,hd:=λj=>?_,ow:=λj hj=>?_,cc:=λj q hj hq=>?_,shr:=k.shr,ne:=k.ne,ro:=k.ro,old:=λx hx e=>k.old x (by rw [<-hs];exact hx) e,sz:=λx hx=>by rw [hs];exact k.sz x hx,pri:=k.pri,
           un:=λj hj=>?_,lv:=λj h1 h2=>?_,z1:=λj h1 h2=>?_,zs:=λj h1=>?_,z5:=λj=>?_,t0:=?_,nx:=k.nx,nk:=?_,fc:=λj hb hz=>?_,past:=λe=>?_ }
  .refine TR.congr (dn:=zkl p.b gh.th) ?_ (λ_=>Iff.rfl) hdn (λ_=>rfl);have:=TR.evs (k.st hi ho) fn pos es.toList k.tr (.inr λe he=>hevs e (oa he)) (by rw [k.deaf i hi (.inr ho)];exact hev);simpa using this
  .rw [zes];split
   .rename_i e;subst e;rw [k.deaf j hj (.inr ho),hdf];simp only [upd_same]
   .rename_i e;simp only [hne j e] at hx |-;exact k.deaf j hj hx
  .rw [zes];split
   .rename_i e;subst e;exact absurd hi (kd6.2 hj)
   .exact k.above j hj
  .have e1:(λj=>(upd gh.th i τ' j).c)=λj=>(gh.th j).c:=by
     funext j;by_cases hj:j=i
     .subst hj;rw [upd_same,hc]
     .rw [hne j hj]
   show p.Gd _ (λj=>(upd gh.th i τ' j).c) w';rw [e1];exact hst _ _ _ _ (λx hx=>hsame x (shr_ne hx od).1 (shr_ne hx od).2) (k.gd hh)
  .show gh.h=some j↔(upd gh.th i τ' j).hd=true;by_cases hj:j=i
   .subst hj;rw [upd_same,hhd];exact k.hd j
   .rw [hne j hj];exact k.hd j
  .simp only at hj |-;by_cases hji:j=i
   .subst hji;rw [upd_same] at hj |-;exact⟨how hj,hi⟩
   .rw [hne j hji] at hj |-;exact k.ow j hj
  .have e1:∀q,(upd gh.th i τ' q).c=(gh.th q).c:=λq=>by
      by_cases hq:q=i
      .subst hq;rw [upd_same,hc]
      .rw [hne q hq]
   have e2:∀q,(upd gh.th i τ' q).cc=(gh.th q).cc:=λq=>by
    by_cases hq:q=i
    .subst hq;rw [upd_same,hcc]
    .rw [hne q hq]
   have e3:∀q,(upd gh.th i τ' q).hd=(gh.th q).hd:=λq=>by
    by_cases hq:q=i
    .subst hq;rw [upd_same,hhd]
    .rw [hne q hq]
   simp only at hj |-;rw [e1,e2];rw [e3] at hj;exact k.cc j q hj hq
  .have hji:j≠i:=λe=>by subst e;simp only at hj;omega
   simp only [hne j hji];exact k.un j hj
  .have hji:j≠i:=λe=>by subst e;exact ho (k.lv j h1 h2)
   simp only [hne j hji];exact k.lv j h1 h2
  .simp only at h2 |-;by_cases hji:j=i
   .subst hji;rw [upd_same] at h2 |-;exact hz2 h1 h2
   .rw [hne j hji] at h2 |-;exact k.z1 j h1 h2
  .simp only;by_cases hji:j=i
   .subst hji;rw [upd_same];exact hz3 h1
   .rw [hne j hji];exact k.zs j h1
  .simp only;by_cases hji:j=i
   .subst hji;rw [upd_same];exact hz4
   .rw [hne j hji];exact k.z5 j
  .simp only;by_cases hji:0=i
   .subst hji;rw [upd_same];exact⟨(ht0 rfl).1,(ht0 rfl).2.1⟩
   .rw [hne 0 hji];exact k.t0
  .simp only;by_cases hji:0=i
   .subst hji;rw [upd_same,hk0 rfl];exact k.nk
   .rw [hne 0 hji];exact k.nk
  .simp only at hz |-;by_cases hji:j=i
   .subst hji;rw [upd_same] at hz |-;rw [hc];refine k.fc j hb ((hz1 ?_).1 hz);have:=k.nx;omega
   .rw [hne j hji] at hz |-;exact k.fc j hb hz
  .simp only at e;by_cases hji:0=i
   .subst hji;rw [upd_same] at e;have:=(ht0 rfl).2.2;omega
   .rw [hne 0 hji] at e;omega
theorem zqc{b nx:Nat}{th:Nat->Thr}{i:Nat}{τ':Thr}{f:Nat->Bool}(h:f τ'.z=f (th i).z):zcv b nx (upd th i τ') f=zcv b nx th f:=by
 unfold zcv;refine zft nx λj _=>?_;by_cases hj:j=i
 .subst hj;rw [upd_same,h]
 .rw [upd_ne _ _ hj]
theorem zav{α:Type}{th:Nat->Thr}{i:Nat}{τ':Thr}(φ:Thr->α)(h:φ τ'=φ (th i)):(λj=>φ (upd th i τ' j))=λj=>φ (th j):=by
 funext j;by_cases hj:j=i
 .subst hj;rw [upd_same,h]
 .rw [upd_ne _ _ hj]
theorem zzx{cap:Nat}{th:Nat->Thr}{i:Nat}{τ':Thr}{wd:Wd}(hr:τ'.r=(th i).r)(hk:τ'.k=(th i).k)(hz:wz τ'.z=wz (th i).z):rkT cap (upd th i τ') wd=rkT cap th wd:=by unfold rkT;rw [zav (λτ=>τ.r) hr,zav (λτ=>τ.k) hk,zav (λτ=>wz τ.z) hz]
theorem ydc{cap:Nat}{th:Nat->Thr}{i:Nat}{τ':Thr}{wd:Wd}(hi:i<cap)(hr:τ'.r=(th i).r)(hk:τ'.k<=(th i).k)(hz:wz τ'.z=wz (th i).z):rkT cap (upd th i τ') wd<=rkT cap th wd:=by
 unfold rkT;rw [zav (λτ=>τ.r) hr,zav (λτ=>wz τ.z) hz];have:=zdd cap (f:=λj=>(th j).r.wt+6*(th j).k) (g:=λj=>(th j).r.wt+6*(upd th i τ' j).k) hi (λj _ hj=>by simp only [upd_ne _ _ hj]);simp only [upd_same] at this;simp only [rank];omega
theorem zhd{p:Par}{gh:PG}{i:Nat}{τ':Thr}{h':Option Nat}{bc':Nat->Cls}(hr:τ'.r=(gh.th i).r)(hk:τ'.k=(gh.th i).k)(hz:wz τ'.z=wz (gh.th i).z)(j:Nat) :
  (sys p).now { gh with th:=upd gh.th i τ',h:=h',bc:=bc' } j=(sys p).now gh j:=by
 show(rkT p.cap (upd gh.th i τ') gh.wd,_)=(rkT p.cap gh.th gh.wd,_)
 rw [zzx hr hk hz]
 rfl
theorem zi9{p:Par}{i:Nat}{gh:PG}{w:World}{es:Array Event}{wk:Bool}{t0:Trace}(_:GI p gh w t0)(hi:i<gh.nx)(ho:(gh.th i).z≠3)(h3:(gh.th 0).s<3)
  (τ':Thr) (h':Option Nat) (bc':Nat->Cls) (hr:τ'.r=(gh.th i).r) (hk:τ'.k=(gh.th i).k) (hs:τ'.s=(gh.th i).s\/(i=0/\(gh.th 0).s % 2=0/\gh.v=0/\(gh.th 0).a=0/\τ'.s=3)) (ha:τ'.a=(gh.th i).a)
  (hz:τ'.z=(gh.th i).z\/(i≠0/\(gh.th i).z=0/\τ'.z=1/\(gh.th i).r=.out)) (how:τ'.hd=true->τ'.r=.owner) (hfc:p.b<=i->1<=τ'.z->τ'.c=p.F i)
  (hhd:∀j,h'=some j↔(upd gh.th i τ' j).hd=true)
  (hbc:∀x,bc' x=gh.bc x\/((gh.bc x=.pri i\/gh.bc x=.gua)/\(bc' x=.pri i\/bc' x=.gua)))
  (hcc:∀t,GI p gh w t->∀j q,(upd gh.th i τ' j).hd=true->q≠j->(upd gh.th i τ' q).c=(upd gh.th i τ' j).cc q)
  (hown:∀j,j≠i->(sys p).own { gh with th:=upd gh.th i τ',h:=h',bc:=bc' } j=(sys p).own gh j)
  (hgd:∀t,GI p gh w t->h'=none->p.Gd (λx=>bc' x=.gua) (λj=>(upd gh.th i τ' j).c) w)
  (htr:∀t fn pos,GI p gh w t->TR (muA p.Mu) (⟨p.Wg,0,none⟩:Addr) (zvk p.b gh.nx) (zkl p.b (upd gh.th i τ')) (zid bc') h' (t++MemOp.ofEvents i fn pos es))
  (hpast:∀t fn pos,GI p gh w t->3<=τ'.s->Past (λl=>zid bc' l=.shr\/zid bc' l=.old) w.heap.size (t++MemOp.ofEvents i fn pos es))
  (hlow:∀e∈es,(MemAct.ofEvent e).low w.heap.size) (hdf:deafBehind (gh.th i).d es=τ'.d) :
  zuz p i gh w es { gh with th:=upd gh.th i τ',h:=h',bc:=bc' } w wk:=by
 have hne:∀j,j≠i->upd gh.th i τ' j=gh.th j:=λj hj=>upd_ne _ _ hj
 have hold:∀x,bc' x=.old↔gh.bc x=.old:=λx=>by
  rcases hbc x with e|⟨e1|e1,e2|e2⟩
  .rw [e]
  all_goals simp [e1,e2]
 have hshr:∀x,bc' x=.shr↔gh.bc x=.shr:=λx=>by
  rcases hbc x with e|⟨e1|e1,e2|e2⟩
  .rw [e]
  all_goals simp [e1,e2]
 have hro:∀x,bc' x=.ro↔gh.bc x=.ro:=λx=>by
  rcases hbc x with e|⟨e1|e1,e2|e2⟩
  .rw [e]
  all_goals simp [e1,e2]
 have hwz:wz τ'.z=wz (gh.th i).z:=by
  rcases hz with e|⟨_,e1,e2,_⟩
  .rw [e]
  .rw [e1,e2];rfl
 have hcz:∀f:Nat->Bool,f 0=f 1->zcv p.b gh.nx (upd gh.th i τ') f=zcv p.b gh.nx gh.th f:=λf hf=>zqc (by
  rcases hz with e|⟨_,e1,e2,_⟩
  .rw [e]
  .rw [e1,e2,hf])
 refine⟨⟨hne,λj hj hl=>hown j hj,λj hj hl=>⟨rfl,rfl,.refl _,kac _,λ_ _ _=>rfl⟩,λ_ _=>?_,λj hj hl h=>.inl ?_⟩,λt fn pos k=>?_,rfl,by simp only [upd_same];exact hdf⟩
 .refine⟨?_,λ_=>rfl⟩;show rkT p.cap (upd gh.th i τ') gh.wd<=rkT p.cap gh.th gh.wd;rw [zzx hr hk hwz];exact kac _
 .show((upd gh.th i τ' j).r=.queued/\gh.wd.T=0)\/((upd gh.th i τ' j).s=1/\gh.wT=0);rw [hne j hj];exact h
 .have s0:(upd gh.th i τ' 0).s=(gh.th 0).s\/(i=0/\(gh.th 0).s % 2=0/\gh.v=0/\(gh.th 0).a=0/\(upd gh.th i τ' 0).s=3):=by
     by_cases h0:0=i
     .subst h0;rw [upd_same];exact hs
     .rw [hne 0 h0];exact .inl rfl
  have a0:(upd gh.th i τ' 0).a=(gh.th 0).a:=by
   by_cases h0:0=i
   .subst h0;rw [upd_same];exact ha
   .rw [hne 0 h0]
  refine { mu:=k.mu,wg:=k.wg,li:=?_,wi:=?_,tr:=htr t fn pos k,low:=zjo k.low (kac _) (zeo hlow),gs:=zr5 k.gs (kac _) λop hop=>by rw [ze9 op hop];exact hi,
           deaf:=λj hj hx=>?_,above:=λj hj=>?_,gd:=hgd t k,hd:=hhd,ow:=λj hj=>?_,cc:=hcc t k,shr:=λx=>(hshr x).trans (k.shr x),ne:=k.ne,ro:=λx=>(hro x).trans (k.ro x),old:=λx hx e=>k.old x hx ((hold x).1 e),
           sz:=λx hx=>k.sz x λe=>hx ((hold x).2 e),pri:=λx j e=>?_,un:=λj hj=>?_,lv:=λj h1 h2=>?_,z1:=λj h1 h2=>?_,zs:=λj h1=>?_,z5:=λj=>?_,t0:=?_,nx:=k.nx,nk:=?_,fc:=λj hb hz1=>?_,past:=λe=>?_ }
  .show zuy gh.wd (cnt p.cap λj=>(upd gh.th i τ' j).r);rw [zav (λτ=>τ.r) hr];exact k.li
  .have c1:=hcz (λz=>decide (z<2)) od;have c2:=hcz (λz=>z == 2) od;have c4:=hcz (λz=>z == 4) od;have kw:=k.wi;refine⟨by simp only [c1,a0];exact kw.v,λe=>?_,λe=>?_,λe=>?_,by simp only [a0];exact kw.a1⟩
   .simp only [c2,c4];rcases s0 with q|⟨_,_,_,_,q⟩
    .exact kw.s0 (q.symm.trans e)
    .simp only at e;omega
   .simp only [c2,c4,a0];rcases s0 with q|⟨_,_,_,_,q⟩
    .exact kw.s1 (q.symm.trans e)
    .simp only at e;omega
   .simp only [c2,c4,a0];rcases s0 with q|⟨_,hev,hv,ha,q⟩
    .exact kw.s2 (by rw [<-q];exact e)
    .by_cases hs0:(gh.th 0).s=0
     .have:=kw.s0 hs0;exact⟨ha,hv,this.1,this.2.1,this.2.2.1,this.2.2.2⟩
     .exact kw.s2 oc
  .rw [zes];split
   .rename_i e;subst e;rw [k.deaf j hj (.inr ho),hdf];simp only [upd_same]
   .rename_i e;simp only [hne j e] at hx |-;exact k.deaf j hj hx
  .rw [zes];split
   .rename_i e;subst e;exact absurd hi (kd6.2 hj)
   .exact k.above j hj
  .simp only at hj |-;by_cases hji:j=i
   .subst hji;rw [upd_same] at hj |-;exact⟨how hj,hi⟩
   .rw [hne j hji] at hj |-;exact k.ow j hj
  .simp only at e;by_cases hj:j=i
   .subst hj;exact hi
   .rcases hbc x with q|⟨_,q|q⟩
    .exact k.pri x j (q.symm.trans e)
    .rw [q] at e;cases e;exact absurd rfl hj
    .rw [q] at e;cases e
  .have hji:j≠i:=λe=>by subst e;simp only at hj;omega
   simp only [hne j hji];exact k.un j hj
  .have hji:j≠i:=λe=>by subst e;exact ho (k.lv j h1 h2)
   simp only [hne j hji];exact k.lv j h1 h2
  .simp only at h2 |-;by_cases hji:j=i
   .subst hji;rw [upd_same] at h2 |-;rcases hz with e|⟨_,_,_,e⟩
    .rw [hr];exact k.z1 j h1 (by rw [<-e];exact h2)
    .rw [hr];exact e
   .rw [hne j hji] at h2 |-;exact k.z1 j h1 h2
  .simp only;by_cases hji:j=i
   .subst hji;rw [upd_same];rcases hs with e|⟨e,_⟩
    .rw [e];exact k.zs j h1
    .omega
   .rw [hne j hji];exact k.zs j h1
  .simp only;by_cases hji:j=i
   .subst hji;rw [upd_same];rcases hz with e|⟨_,_,e,_⟩
    .rw [e];exact k.z5 j
    .omega
   .rw [hne j hji];exact k.z5 j
  .simp only;by_cases hji:0=i
   .subst hji;rw [upd_same,hr];rcases hz with e|⟨e,_⟩
    .rw [e];exact k.t0
    .exact absurd rfl e
   .rw [hne 0 hji];exact k.t0
  .simp only;by_cases hji:0=i
   .subst hji;rw [upd_same,hk];exact k.nk
   .rw [hne 0 hji];exact k.nk
  .simp only at hz1 |-;by_cases hji:j=i
   .subst hji;rw [upd_same] at hz1 |-;exact hfc hb hz1
   .rw [hne j hji] at hz1 |-;exact k.fc j hb hz1
  .simp only at e;by_cases hji:0=i
   .subst hji;rw [upd_same] at e;exact hpast t fn pos k e
   .rw [hne 0 hji] at e;omega
theorem zb9(g:Nat)(fn:FuncId)(pos:String)(m:Mark):MemOp.ofEvents g fn pos #[⟨.mark m,false,true⟩]=#[{ g,fn,pos,act:=.mark m }]:=by rw [Conc.ofEvents_eq];simp [MemAct.ofEvent]
theorem GI.own_unlock{p:Par}{gh:PG}{w:World}{t:Trace}(_k:GI p gh w t){i:Nat}(hi:gh.h=none\/gh.h=some i){j:Nat}(hj:j≠i):(sys p).own gh j=λx=>gh.bc x=.pri j:=by
 funext x;apply propext;constructor
 .rintro(e|⟨_,e⟩)
  .exact e
  .rcases hi with q|q<;>(rw [q] at e;cases e);exact absurd rfl hj
 .exact .inl
theorem zw7{p:Par}{i:Nat}{gh:PG}{w:World}{wk:Bool}{t0:Trace}(h0:GI p gh w t0)(hi:i<gh.nx)(ho:(gh.th i).z≠3)(h3:(gh.th 0).s<3)(m:Mark)(hm:m=.disable\/m=.enable) :
  zuz p i gh w #[⟨.mark m,false,true⟩] { gh with th:=upd gh.th i { gh.th i with d:=deafBehind (gh.th i).d #[⟨.mark m,false,true⟩] } } w wk:=by
 have hth:∀{α:Type} (φ:Thr->α),φ { gh.th i with d:=deafBehind (gh.th i).d #[⟨.mark m,false,true⟩] }=φ (gh.th i)->(λj=>φ (upd gh.th i { gh.th i with d:=deafBehind (gh.th i).d #[⟨.mark m,false,true⟩] } j))=λj=>φ (gh.th j):=λφ h=>zav φ h
 have hdn:∀g,zkl p.b (upd gh.th i { gh.th i with d:=deafBehind (gh.th i).d #[⟨.mark m,false,true⟩] }) g↔zkl p.b gh.th g:=λg=>by unfold zkl;rw [congrFun (hth (λτ=>τ.z) rfl) g]
 refine zi9 (es:=#[⟨.mark m,false,true⟩]) h0 hi ho h3 { gh.th i with d:=deafBehind (gh.th i).d #[⟨.mark m,false,true⟩] } gh.h gh.bc rfl rfl (.inl rfl) rfl (.inl rfl) (λh=>(h0.ow i h).1) (λhb h=>h0.fc i hb h) (λj=>by rw [congrFun (hth (λτ=>τ.hd) rfl) j];exact h0.hd j) (λx=>.inl rfl) (λt k j q hj hq=>by rw [congrFun (hth (λτ=>τ.hd) rfl) j] at hj;rw [congrFun (hth (λτ=>τ.c) rfl) q,congrFun (hth (λτ=>τ.cc) rfl) j];exact k.cc j q hj hq) (λj hj=>rfl) (λt k hh=>?_) (λt fn pos k=>?_) (λt fn pos _ e=>?_) (λe he=>by simp at he;subst he;rcases hm with rfl|rfl<;>trivial) rfl
 .rw [hth (λτ=>τ.c) rfl];exact k.gd hh
 .refine TR.congr (st:=zvk p.b gh.nx) ?_ (λ_=>Iff.rfl) hdn (λ_=>rfl);rw [zb9];exact k.tr.still (by rcases hm with rfl|rfl<;>rfl) (by rcases hm with rfl|rfl<;>simp) (by rcases hm with rfl|rfl<;>simp) (k.st hi ho)
 .by_cases e0:i=0
  .subst e0;simp only at e;omega
  .simp only [h0.zs i oc] at e;omega
theorem yby{p:Par}{i:Nat}{gh:PG}{w:World}{wk:Bool}{t0:Trace}(h0:GI p gh w t0)(hi:i<gh.nx)(h3:(gh.th 0).s<3)(h00:0<i)(hz:(gh.th i).z=0)(hr:(gh.th i).r=.owner)(hd:(gh.th i).d=0)(hh:(gh.th i).hd=false) :
  gh.h=none/\zuz p i gh w #[⟨.mark (.acquire (muA p.Mu)),false,true⟩] { gh with th:=upd gh.th i { gh.th i with hd:=true,cc:=λj=>(gh.th j).c },h:=some i } w wk:=by
 have hnone:gh.h=none:=by
  cases hg:gh.h with
  | none=>rfl
  | some j =>
    have hj:=(h0.hd j).1 hg;obtain⟨ho,hjn⟩:=h0.ow j hj;have hji:j≠i:=λe=>by rw [e,hh] at hj;cases hj
    have hcap:=h0.nx.2.2;exfalso;have h1:=h0.li.own;have h2:(2:Nat)<=cnt p.cap (λj=>(gh.th j).r) .owner:=by
     show 2<=sumTo p.cap λq=>if (gh.th q).r=.owner then 1 else 0
     have e1:=zdd p.cap (f:=λq=>if (gh.th q).r=.owner then 1 else 0) (g:=λq=>if q=i then 0 else if (gh.th q).r=.owner then 1 else 0) (i:=i) oc (λq _ hq=>by simp [hq]);have e2:=zde p.cap (λq=>if q=i then 0 else if (gh.th q).r=.owner then 1 else 0) j oc;simp [hji,ho,hr] at e1 e2;omega
    rw [h1] at h2;have:gh.wd.L.toNat<=1:=by cases gh.wd.L<;>simp
    omega
 have hth:∀{α:Type} (φ:Thr->α),φ { gh.th i with hd:=true,cc:=λj=>(gh.th j).c }=φ (gh.th i)->(λj=>φ (upd gh.th i { gh.th i with hd:=true,cc:=λj=>(gh.th j).c } j))=λj=>φ (gh.th j):=λφ h=>zav φ h
 have ho:(gh.th i).z≠3:=oc
 have hdn:∀g,zkl p.b (upd gh.th i { gh.th i with hd:=true,cc:=λj=>(gh.th j).c }) g↔zkl p.b gh.th g:=λg=>by unfold zkl;rw [congrFun (hth (λτ=>τ.z) rfl) g]
 refine⟨hnone,zi9 (es:=#[⟨.mark (.acquire (muA p.Mu)),false,true⟩]) h0 hi ho h3 { gh.th i with hd:=true,cc:=λj=>(gh.th j).c } (some i) gh.bc rfl rfl (.inl rfl) rfl (.inl rfl) (λ_=>hr) (λ_ h=>absurd (show 1<=(gh.th i).z from h) oc) (λj=>?_) (λx=>.inl rfl) (λt k j q hj hq=>?_) (λj hj=>?_) (λt k e=>by cases e) (λt fn pos k=>?_) (λt fn pos k e=>?_) (λe he=>?_) rfl⟩
 .by_cases hj:j=i
  .subst hj;rw [upd_same];simp
  .rw [upd_ne _ _ hj,<-h0.hd j,hnone];simp [Ne.symm hj]
 .rw [congrFun (hth (λτ=>τ.c) rfl) q];by_cases hji:j=i
  .subst hji;rw [upd_same]
  .rw [upd_ne _ _ hji] at hj;have:=(k.hd j).2 hj;rw [hnone] at this;cases this
 .rw [h0.own_unlock (.inl hnone) hj];funext x;apply propext;constructor
  .rintro(e|⟨_,e⟩)
   .exact e
   .cases e;exact absurd rfl hj
  .exact .inl
 .refine TR.congr (st:=zvk p.b gh.nx) ?_ (λ_=>Iff.rfl) hdn (λ_=>rfl);rw [zb9];have:=k.tr;rw [hnone] at this;exact this.acquire (z:={ g:=i,fn,pos,act:=.mark (.acquire (muA p.Mu)) }) (k.st hi ho) rfl (by rw [k.deaf i hi (.inr ho)];exact hd)
 .simp only [h0.zs i h00] at e;omega
 .simp at he;subst he;exact h0.sz p.Mu (by rw [(h0.shr _).2 (.inl rfl)];simp)
theorem ybv{p:Par}{i:Nat}{gh:PG}{w:World}{wk:Bool}{t0:Trace}(h0:GI p gh w t0)(hi:i<gh.nx)(h3:(gh.th 0).s<3)(h00:0<i)(hz:(gh.th i).z=0)(hd:(gh.th i).d=0)(hh:(gh.th i).hd=true)
  (c':Nat) (bc':Nat->Cls) (hbc:∀x,bc' x=gh.bc x\/((gh.bc x=.pri i\/gh.bc x=.gua)/\(bc' x=.pri i\/bc' x=.gua)))
  (hgd:p.Gd (λx=>bc' x=.gua) (λj=>if j=i then c' else (gh.th j).c) w) :
  zuz p i gh w #[⟨.mark (.releaseMerge (muA p.Mu)),false,true⟩] { gh with th:=upd gh.th i { gh.th i with hd:=false,c:=c' },h:=none,bc:=bc' } w wk:=by
 have hsome:gh.h=some i:=(h0.hd i).2 hh
 have hth:∀{α:Type} (φ:Thr->α),φ { gh.th i with hd:=false,c:=c' }=φ (gh.th i)->(λj=>φ (upd gh.th i { gh.th i with hd:=false,c:=c' } j))=λj=>φ (gh.th j):=λφ h=>zav φ h
 have ho:(gh.th i).z≠3:=oc
 have hdn:∀g,zkl p.b (upd gh.th i { gh.th i with hd:=false,c:=c' }) g↔zkl p.b gh.th g:=λg=>by unfold zkl;rw [congrFun (hth (λτ=>τ.z) rfl) g]
 refine zi9 (es:=#[⟨.mark (.releaseMerge (muA p.Mu)),false,true⟩]) h0 hi ho h3 { gh.th i with hd:=false,c:=c' } none bc' rfl rfl (.inl rfl) rfl (.inl rfl) (λh=>by cases h) (λ_ h=>absurd (show 1<=(gh.th i).z from h) oc) (λj=>?_) hbc (λt k j q hj hq=>?_) (λj hj=>?_) (λt _ e=>?_) (λt fn pos k=>?_) (λt fn pos _ e=>?_) (λe he=>?_) rfl
 .by_cases hj:j=i
  .subst hj;rw [upd_same];simp
  .rw [upd_ne _ _ hj,<-h0.hd j,hsome];simp [Ne.symm hj]
 .exfalso;by_cases hji:j=i
  .subst hji;rw [upd_same] at hj;cases hj
  .rw [upd_ne _ _ hji] at hj;have:=(k.hd j).2 hj;rw [hsome] at this;exact hji (kaw this).symm
 .rw [h0.own_unlock (.inr hsome) hj];funext x;apply propext;constructor
  .rintro(e|⟨_,e⟩)
   .rcases hbc x with q|⟨_,q|q⟩
    .exact q.symm.trans e
    .rw [show bc' x=_ from e] at q;cases q;exact absurd rfl hj
    .rw [show bc' x=_ from e] at q;cases q
   .cases e
  .intro e;refine .inl ?_;rcases hbc x with q|⟨q|q,_⟩
   .exact q.trans e
   .rw [show gh.bc x=_ from e] at q;cases q;exact absurd rfl hj
   .rw [show gh.bc x=_ from e] at q;cases q
 .have e1:(λj=>(upd gh.th i { gh.th i with hd:=false,c:=c' } j).c)=λj=>if j=i then c' else (gh.th j).c:=by
    funext j;by_cases hj:j=i
    .subst hj;rw [upd_same];simp
    .rw [upd_ne _ _ hj];simp [hj]
  rw [e1];exact hgd
 .refine TR.congr (st:=zvk p.b gh.nx) ?_ (λ_=>Iff.rfl) hdn (λ_=>rfl);rw [zb9];have h1:=k.tr;rw [hsome] at h1;have h2:TR (muA p.Mu) (⟨p.Wg,0,none⟩:Addr) (zvk p.b gh.nx) (zkl p.b gh.th) (zid bc') (some i) t:=by
    refine h1.recl λl=>?_;cases l with
    | cell a=>exact(hbc a.block).imp id λe=>.inr ⟨i,rfl,e⟩
    | obj r=>exact(hbc r).imp id λe=>.inr ⟨i,rfl,e⟩
    | _=>exact .inl rfl
  exact h2.release (y:={ g:=i,fn,pos,act:=.mark (.releaseMerge (muA p.Mu)) }) (k.st hi ho) rfl rfl (by rw [k.deaf i hi (.inr ho)];exact hd)
 .simp only [h0.zs i h00] at e;omega
 .simp at he;subst he;exact h0.sz p.Mu (by rw [(h0.shr _).2 (.inl rfl)];simp)
theorem ybx{p:Par}{i:Nat}{gh:PG}{w:World}{wk:Bool}{t0:Trace}(h0:GI p gh w t0)(hi:i<gh.nx)(h3:(gh.th 0).s<3)(h00:0<i)(hz:(gh.th i).z=0)(hr:(gh.th i).r=.out)(hd:(gh.th i).d=0)(hF:p.b<=i->(gh.th i).c=p.F i) :
  zuz p i gh w #[⟨.mark (.releaseMerge ⟨p.Wg,0,none⟩),false,true⟩] { gh with th:=upd gh.th i { gh.th i with z:=1 } } w wk:=by
 have hth:∀{α:Type} (φ:Thr->α),φ { gh.th i with z:=1 }=φ (gh.th i)->(λj=>φ (upd gh.th i { gh.th i with z:=1 } j))=λj=>φ (gh.th j):=λφ h=>zav φ h
 have ho:(gh.th i).z≠3:=oc
 refine zi9 (es:=#[⟨.mark (.releaseMerge ⟨p.Wg,0,none⟩),false,true⟩]) h0 hi ho h3 { gh.th i with z:=1 } gh.h gh.bc rfl rfl (.inl rfl) rfl (.inr ⟨oc,hz,rfl,hr⟩) (λh=>(h0.ow i h).1) (λhb _=>hF hb) (λj=>by rw [congrFun (hth (λτ=>τ.hd) rfl) j];exact h0.hd j) (λx=>.inl rfl) (λt k j q hj hq=>by rw [congrFun (hth (λτ=>τ.hd) rfl) j] at hj;rw [congrFun (hth (λτ=>τ.c) rfl) q,congrFun (hth (λτ=>τ.cc) rfl) j];exact k.cc j q hj hq) (λj hj=>rfl) (λt k hh=>?_) (λt fn pos k=>?_) (λt fn pos k e=>?_) (λe he=>?_) rfl
 .rw [hth (λτ=>τ.c) rfl];exact k.gd hh
 .rw [zb9];have h1:=k.tr.finish (y:={ g:=i,fn,pos,act:=.mark (.releaseMerge ⟨p.Wg,0,none⟩) }) (k.st hi ho) rfl rfl (by rw [k.deaf i hi (.inr ho)];exact hd);refine h1.congr (λ_=>Iff.rfl) (λg=>?_) (λ_=>rfl);unfold zkl;by_cases hg:g=i
  .subst hg;rw [upd_same];simp;omega
  .rw [upd_ne _ _ hg];simp [hg]
 .simp only [h0.zs i h00] at e;omega
 .simp at he;subst he;exact h0.sz p.Wg (by rw [(h0.shr _).2 (.inr rfl)];simp)
theorem z6z{p:Par}{gh:PG}{w:World}{wk:Bool}{t0:Trace}(h0:GI p gh w t0)(h3:(gh.th 0).s<3)(hs:(gh.th 0).s % 2=0)(hv:gh.v=0)(ha:(gh.th 0).a=0)(hd:(gh.th 0).d=0) :
  zuz p 0 gh w #[⟨.mark (.acquire ⟨p.Wg,0,none⟩),false,true⟩] { gh with th:=upd gh.th 0 { gh.th 0 with s:=3 } } w wk:=by
 have hth:∀{α:Type} (φ:Thr->α),φ { gh.th 0 with s:=3 }=φ (gh.th 0)->(λj=>φ (upd gh.th 0 { gh.th 0 with s:=3 } j))=λj=>φ (gh.th j):=λφ h=>zav φ h
 have hi:0<gh.nx:=by have:=h0.nx;omega
 have ho:(gh.th 0).z≠3:=by rw [h0.t0.2];simp
 have hdn:∀g,zkl p.b (upd gh.th 0 { gh.th 0 with s:=3 }) g↔zkl p.b gh.th g:=λg=>by unfold zkl;rw [congrFun (hth (λτ=>τ.z) rfl) g]
 refine zi9 (es:=#[⟨.mark (.acquire ⟨p.Wg,0,none⟩),false,true⟩]) h0 hi ho h3 { gh.th 0 with s:=3 } gh.h gh.bc rfl rfl (.inr ⟨rfl,hs,hv,ha,rfl⟩) rfl (.inl rfl) (λh=>(h0.ow 0 h).1) (λhb _=>by have:=h0.nx;omega) (λj=>by rw [congrFun (hth (λτ=>τ.hd) rfl) j];exact h0.hd j) (λx=>.inl rfl) (λt k j q hj hq=>by rw [congrFun (hth (λτ=>τ.hd) rfl) j] at hj;rw [congrFun (hth (λτ=>τ.c) rfl) q,congrFun (hth (λτ=>τ.cc) rfl) j];exact k.cc j q hj hq) (λj hj=>rfl) (λt k hh=>?_) (λt fn pos k=>?_) (λt fn pos k e=>?_) (λe he=>?_) rfl
 .rw [hth (λτ=>τ.c) rfl];exact k.gd hh
 .refine TR.congr (st:=zvk p.b gh.nx) ?_ (λ_=>Iff.rfl) hdn (λ_=>rfl);rw [zb9];exact k.tr.still rfl od od (k.st hi ho)
 .rw [zb9];have hlow:∀op∈t++#[({ g:=0,fn,pos,act:=.mark (.acquire ⟨p.Wg,0,none⟩) }:MemOp)],op.act.low w.heap.size:=zjo k.low (kac _) λop hop=>by
    simp at hop;subst hop;exact k.sz p.Wg (by rw [(k.shr _).2 (.inr rfl)];simp)
  refine k.tr.join (k.st hi ho) rfl rfl (by rw [k.deaf 0 hi (.inl rfl)];exact hd) (λq g hg hne=>?_) od hlow;obtain⟨op,ho',hog⟩:=kan.1 hg;have hgn:g<gh.nx:=by rw [<-hog];exact k.gs op (kbl ho')
  refine⟨hne,?_⟩;by_cases hb:g<p.b
  .exact .inl hb
  .refine .inr ?_;have h1:=k.wi.v;rw [hv,ha] at h1;have:=zi4 (b:=p.b) (nx:=gh.nx) (th:=gh.th) (f:=λz=>decide (z<2)) oc oc hgn;simp at this;omega
 .simp at he;subst he;exact h0.sz p.Wg (by rw [(h0.shr _).2 (.inr rfl)];simp)
theorem z2c{b nx:Nat}{th:Nat->Thr}{f:Nat->Bool}:zcv b (nx+1) th f=zcv b nx th f+(if b<=nx/\f (th nx).z=true then 1 else 0):=rfl
theorem z26{p:Par}{gh:PG}{w:World}{t0:Trace}(h0:GI p gh w t0)(h3:(gh.th 0).s=0)(ha:1<=(gh.th 0).a)(hd:(gh.th 0).d=0)(hk:0<(gh.th 0).k)
  (Q:Nat->Bool) (hQ:∀x,Q x=true->gh.bc x=.pri 0) :
  (sys p).Keeps 0 gh w { gh with th:=upd gh.th 0 { gh.th 0 with a:=(gh.th 0).a-1,k:=(gh.th 0).k-1 },bc:=λx=>if Q x then .pri gh.nx else gh.bc x,nx:=gh.nx+1 } w false/\
  ∀t fn fn' pos,GI p gh w t->GI p { gh with th:=upd gh.th 0 { gh.th 0 with a:=(gh.th 0).a-1,k:=(gh.th 0).k-1 },bc:=λx=>if Q x then .pri gh.nx else gh.bc x,nx:=gh.nx+1 } w
   (t++#[{ g:=0,fn,pos,act:=.go gh.nx },{ g:=gh.nx,fn:=fn',pos,act:=.start }]):=by
 have hne:∀j,j≠0->upd gh.th 0 { gh.th 0 with a:=(gh.th 0).a-1,k:=(gh.th 0).k-1 } j=gh.th j:=λj hj=>upd_ne _ _ hj
 have hth:∀{α:Type} (φ:Thr->α),φ { gh.th 0 with a:=(gh.th 0).a-1,k:=(gh.th 0).k-1 }=φ (gh.th 0)->(λj=>φ (upd gh.th 0 { gh.th 0 with a:=(gh.th 0).a-1,k:=(gh.th 0).k-1 } j))=λj=>φ (gh.th j):=λφ h=>zav φ h
 have hb0:=h0.nx
 have hnk:=h0.nk
 have hk1:(upd gh.th 0 { gh.th 0 with a:=(gh.th 0).a-1,k:=(gh.th 0).k-1 } 0).k=(gh.th 0).k-1:=congrArg Thr.k (upd_same gh.th 0 _)
 have hbi:∀x c,(if Q x then Cls.pri gh.nx else gh.bc x)=c->c≠.pri gh.nx->gh.bc x=c:=λx c hx hc=>by
  split at hx
  .exact absurd hx.symm hc
  .exact hx
 have hb:∀x c,gh.bc x=c->c≠.pri 0->(if Q x then Cls.pri gh.nx else gh.bc x)=c:=λx c hx hc=>by
  split
  .rename_i h;exact absurd (hx.symm.trans (hQ x h)) hc
  .exact hx
 have npri:∀x,gh.bc x≠.pri gh.nx:=λx e=>by have:=h0.pri x _ e;omega
 have hiff:∀x c,c≠.pri gh.nx->c≠.pri 0->((if Q x then Cls.pri gh.nx else gh.bc x)=c↔gh.bc x=c):=λx c h1 h2=>⟨λe=>hbi x c e h1,λe=>hb x c e h2⟩
 refine⟨⟨hne,λj hj hl=>?_,λj hj hl=>⟨rfl,rfl,.refl _,kac _,λ_ _ _=>rfl⟩,λ_ _=>?_,λj hj hl h=>.inl ?_⟩,λt fn fn' pos k=>?_⟩
 .funext x;apply propext;have hl':j<gh.nx:=hl;exact or_congr (hiff x _ oy (by simp [hj])) (and_congr (hiff x _ od od) Iff.rfl)
 .refine⟨?_,λ_=>rfl⟩;show rkT p.cap (upd gh.th 0 { gh.th 0 with a:=(gh.th 0).a-1,k:=(gh.th 0).k-1 }) gh.wd<=rkT p.cap gh.th gh.wd;exact ydc oc rfl (Nat.sub_le _ _) rfl
 .show((upd gh.th 0 _ j).r=.queued/\gh.wd.T=0)\/((upd gh.th 0 _ j).s=1/\gh.wT=0);rw [hne j hj];exact h
 .have hsplit:t++#[({ g:=0,fn,pos,act:=.go gh.nx }:MemOp),{ g:=gh.nx,fn:=fn',pos,act:=.start }]=(t++#[{ g:=0,fn,pos,act:=.go gh.nx }])++#[{ g:=gh.nx,fn:=fn',pos,act:=.start }]:=by apply kd8;simp
  have hdf:∀j,Deaf (t++#[({ g:=0,fn,pos,act:=.go gh.nx }:MemOp),{ g:=gh.nx,fn:=fn',pos,act:=.start }]) j=Deaf t j:=λj=>by rw [hsplit,Deaf_push,Deaf_push];rfl
  have hops:∀op∈#[({ g:=0,fn,pos,act:=.go gh.nx }:MemOp),{ g:=gh.nx,fn:=fn',pos,act:=.start }],op.act.low w.heap.size/\op.g<gh.nx+1:=by
   intro op hop;simp at hop;rcases hop with rfl|rfl
   .exact⟨trivial,od⟩
   .exact⟨trivial,od⟩
  have hun:=k.un gh.nx (kac _);have hz0:(gh.th gh.nx).z=0:=by rw [hun];rfl
  refine { mu:=k.mu,wg:=k.wg,li:=?_,wi:=?_,tr:=?_,low:=zjo k.low (kac _) λop hop=>(hops op hop).1,gs:=zr5 k.gs (Nat.le_succ _) λop hop=>(hops op hop).2,
           deaf:=λj hj hx=>?_,above:=λj hj=>?_,gd:=λhh=>?_,hd:=λj=>?_,ow:=λj hj=>?_,cc:=λj q hj hq=>?_,shr:=λx=>?_,ne:=k.ne,ro:=λx=>?_,old:=λx hx e=>?_,sz:=λx hx=>?_,pri:=λx j e=>?_,
           un:=λj hj=>?_,lv:=λj h1 h2=>?_,z1:=λj h1 h2=>?_,zs:=λj h1=>?_,z5:=λj=>?_,t0:=?_,nx:=⟨hb0.1,by show p.b<=gh.nx+1;omega,by show gh.nx+1<=p.cap;omega⟩,nk:=by have e:=hk1;show gh.nx+1+(upd gh.th 0 { gh.th 0 with a:=(gh.th 0).a-1,k:=(gh.th 0).k-1 } 0).k=p.cap;omega,fc:=λj hb hz=>?_,past:=λe=>?_ }
  .show zuy gh.wd (cnt p.cap λj=>(upd gh.th 0 _ j).r);rw [hth (λτ=>τ.r) rfl];exact k.li
  .have hcz:∀f:Nat->Bool,zcv p.b (gh.nx+1) (upd gh.th 0 { gh.th 0 with a:=(gh.th 0).a-1,k:=(gh.th 0).k-1 }) f=zcv p.b gh.nx gh.th f+(if f 0=true then 1 else 0):=λf=>by
     rw [z2c,zqc og,hne gh.nx oc,hz0];simp [hb0.2.1]
   have kw:=k.wi;refine⟨?_,λe=>?_,λe=>?_,λe=>?_,by simp only [upd_same];have:=kw.a1;omega⟩
   .simp only [hcz,upd_same];have:=kw.v;simp only [decide_eq_true_eq,Nat.zero_lt_two,if_true];omega
   .simp only [hcz];have:=kw.s0 h3;simpa using this
   .simp only [upd_same] at e;omega
   .simp only [upd_same] at e;omega
  .have h1:=k.tr.fork (cl':=zid λx=>if Q x then .pri gh.nx else gh.bc x) (c:=gh.nx) (.inl rfl) (x:={ g:=0,fn,pos,act:=.go gh.nx }) (y:={ g:=gh.nx,fn:=fn',pos,act:=.start }) ⟨rfl,rfl⟩ ⟨rfl,rfl⟩
      (by rw [k.deaf 0 (oc) (.inl rfl)];exact hd) (k.above _ (kac _)) (λl=>by
       cases l with
       | cell a=>simp only [zid];split;· rename_i h;exact .inr ⟨hQ _ h,rfl⟩
                 .exact .inl rfl
       | obj r=>simp only [zid];split;· rename_i h;exact .inr ⟨hQ _ h,rfl⟩
                .exact .inl rfl
       | _=>exact .inl rfl)
   refine h1.congr (λg=>?_) (λg=>?_) (λ_=>rfl)
   .unfold zvk;constructor
    .rintro(e|⟨e1,e2⟩)
     .exact .inl (.inl e)
     .by_cases hg:g=gh.nx
      .exact .inr hg
      .exact .inl (.inr ⟨e1,by have:g<gh.nx+1:=e2;omega⟩)
    .rintro((e|⟨e1,e2⟩)|e)
     .exact .inl e
     .exact .inr ⟨e1,by show g<gh.nx+1;omega⟩
     .exact .inr ⟨oc,by show g<gh.nx+1;omega⟩
   .unfold zkl;by_cases hg:g=0
    .simp [hg]
    .simp only [hne g hg]
  .rw [hdf];by_cases hj0:j=0
   .subst hj0;simp only [upd_same];exact k.deaf 0 oc (.inl rfl)
   .simp only [hne j hj0] at hx |-;by_cases hjn:j=gh.nx
    .subst hjn;rw [k.above _ (kac _),hun];rfl
    .exact k.deaf j (by have:j<gh.nx+1:=hj;omega) hx
  .rw [hdf];exact k.above j (by have:gh.nx+1<=j:=hj;omega)
  .have hG:(λx=>(if Q x then Cls.pri gh.nx else gh.bc x)=.gua)=λx=>gh.bc x=.gua:=by
     funext x;exact propext (hiff x _ od od)
   show p.Gd (λx=>(if Q x then Cls.pri gh.nx else gh.bc x)=.gua) (λj=>(upd gh.th 0 _ j).c) w;rw [hG,hth (λτ=>τ.c) rfl];exact k.gd hh
  .show gh.h=some j↔(upd gh.th 0 _ j).hd=true;rw [congrFun (hth (λτ=>τ.hd) rfl) j];exact k.hd j
  .simp only at hj |-;rw [congrFun (hth (λτ=>τ.hd) rfl) j] at hj;rw [congrFun (hth (λτ=>τ.r) rfl) j];have:=k.ow j hj;exact⟨this.1,oc⟩
  .simp only at hj |-;rw [congrFun (hth (λτ=>τ.hd) rfl) j] at hj;rw [congrFun (hth (λτ=>τ.c) rfl) q,congrFun (hth (λτ=>τ.cc) rfl) j];exact k.cc j q hj hq
  .rw [<-k.shr x];exact hiff x _ od od
  .rw [<-k.ro x];exact hiff x _ od od
  .exact k.old x hx (hbi x _ e od)
  .by_cases hq:Q x=true
   .exact k.sz x (by rw [hQ x hq];simp)
   .simp only [hq] at hx;exact k.sz x hx
  .show j<gh.nx+1;by_cases hj:j=gh.nx
   .omega
   .have:=k.pri x j (hbi x _ e (by simp [hj]));omega
  .have hj':gh.nx+1<=j:=hj;show upd gh.th 0 _ j=_;rw [hne j oc];exact k.un j oc
  .show(upd gh.th 0 _ j).z=3;rw [hne j oc];exact k.lv j h1 h2
  .simp only [hne j oc] at h2 |-;exact k.z1 j h1 h2
  .simp only [hne j oc];exact k.zs j h1
  .show(upd gh.th 0 _ j).z<5;rw [congrFun (hth (λτ=>τ.z) rfl) j];exact k.z5 j
  .simp only [upd_same];exact k.t0
  .simp only [hne j oc] at hz |-;exact k.fc j hb hz
  .simp only [upd_same] at e;omega
theorem zzb(p:Par)(hst:yp0 p):(sys p).Ok where
 at_ gh w t d k:={ mu:=k.mu,wg:=k.wg,li:=k.li,wi:=k.wi,tr:=k.tr,low:=k.low,gs:=k.gs,deaf:=k.deaf,above:=k.above,gd:=λh=>hst _ _ w (w.at d) (λ_ _=>rfl) (k.gd h),hd:=k.hd,ow:=k.ow,cc:=k.cc,shr:=k.shr,ne:=k.ne,ro:=k.ro,old:=k.old,sz:=k.sz,pri:=k.pri,un:=k.un,lv:=k.lv,z1:=k.z1,zs:=k.zs,z5:=k.z5,t0:=k.t0,nx:=k.nx,nk:=k.nk,fc:=k.fc,past:=k.past }
 num gh w t k:=k.gs
 live gh w t k:=by
  refine Classical.byContradiction λhno=>?_;have all:∀j,j<gh.nx->(gh.th j).z≠3->((gh.th j).r=.queued/\gh.wd.T=0)\/((gh.th j).s=1/\gh.wT=0):=λj hj hz=>Classical.byContradiction λh=>hno ⟨j,hj,hz,h⟩;have hb:=k.nx;have h0:=all 0 oc (by rw [k.t0.2];simp);have hs:(gh.th 0).s=1/\gh.wT=0:=h0.resolve_left λh=>by rw [k.t0.1] at h;cases h.1
  have hq:∀j,0<j->j<gh.nx->(gh.th j).z≠3->(gh.th j).r=.queued/\gh.wd.T=0:=λj h1 h2 h3=>(all j h2 h3).resolve_right λh=>by rw [k.zs j h1] at h;omega
  have role:∀j,(gh.th j).r=.out\/((gh.th j).r=.queued/\gh.wd.T=0/\j<gh.nx):=λj=>by
   by_cases hj:gh.nx<=j
   .rw [k.un j hj];exact .inl rfl
   .by_cases hj0:j=0
    .subst hj0;exact .inl k.t0.1
    .by_cases hz:(gh.th j).z=3
     .exact .inl (k.z1 j oc oc)
     .have:=hq j oc oc hz;exact .inr ⟨this.1,this.2,oc⟩
  have nq:∀j,(gh.th j).r=.out:=λj=>by
   rcases role j with h|⟨h,hT,hj⟩
   .exact h
   .exfalso;have zero:∀r:zif,r≠.out->r≠.queued->cnt p.cap (λj=>(gh.th j).r) r=0:=λr h1 h2=>zlj λi _ e=>by
      rcases role i with q|⟨q,_⟩
      .exact h1 (e.symm.trans q)
      .exact h2 (e.symm.trans q)
    have:=k.li.live (zero _ od od) (zero _ od od) (zero _ od od) (zero _ od od) (zero _ od od) (zero _ od od) (zero _ od od) hT;have hp:=zqd (N:=p.cap) (R:=λj=>(gh.th j).r) (i:=j) oc;simp only [h] at hp;omega
  have ov:∀j,0<j->j<gh.nx->(gh.th j).z=3:=λj h1 h2=>Classical.byContradiction λhz=>by have:=(hq j h1 h2 hz).1;rw [nq j] at this;cases this
  have cz:∀f:Nat->Bool,f 3=false->zcv p.b gh.nx gh.th f=0:=λf hf=>by
   unfold zcv;have:sumTo gh.nx (λj=>if p.b<=j/\f (gh.th j).z=true then 1 else 0)=sumTo gh.nx λ_=>0:=zft gh.nx λj hj=>by
    by_cases hbj:p.b<=j
    .rw [ov j oc hj,hf];simp
    .simp [hbj]
   rw [this];have z:∀n,sumTo n (λ_=>0)=0:=λn=>by
    induction n with
    | zero=>rfl
    | succ n ih=>simp [sumTo,ih]
   exact z _
  obtain⟨ha,h⟩:=k.wi.s1 hs.1;have hv:=k.wi.v;rw [cz _ od,ha] at hv;rcases h with ⟨h,_⟩|⟨_,⟨_,_,h,_⟩|⟨_,_,_,h⟩|⟨_,h,_⟩⟩
  .omega
  .rw [cz _ od] at h;omega
  .rw [cz _ od] at h;omega
  .omega
 cap gh w t k:=k.nx.2.2
 zero gh w t k:=⟨by have:=k.nx;show 0<gh.nx;omega,by show ¬(gh.th 0).z=3;rw [k.t0.2];simp⟩
 deaf gh w t j k hj h:=k.deaf j hj h
 above gh w t j k hj:=k.above j hj
 mute gh w t j fn pos es k h0 hj hov hm:=by
  have hov':(gh.th j).z=3:=hov;have hnt:∀e∈es,(MemAct.ofEvent e).touch?=none:=λe he=>Conc.touch_mute (hm e he)
  refine { mu:=k.mu,wg:=k.wg,li:=k.li,wi:=k.wi,tr:=?_,low:=zjo k.low (kac _) (zeo λe he=>Conc.low_mute (hm e he) _),gs:=zr5 k.gs (kac _) (λop hop=>by rw [ze9 op hop];exact hj),deaf:=λi hi h=>?_,above:=λi hi=>?_,gd:=k.gd,hd:=k.hd,ow:=k.ow,cc:=k.cc,shr:=k.shr,ne:=k.ne,ro:=k.ro,old:=k.old,sz:=k.sz,pri:=k.pri,un:=k.un,lv:=k.lv,z1:=k.z1,zs:=k.zs,z5:=k.z5,t0:=k.t0,nx:=k.nx,nk:=k.nk,fc:=k.fc,past:=λe=>(k.past e).mute oc hm }
  .have key:∀(l:List Event) {t:Trace},(∀e∈l,(MemAct.ofEvent e).touch?=none/\(∀a,MemAct.ofEvent e≠.mark (.release a)))->TR (muA p.Mu) (⟨p.Wg,0,none⟩:Addr) (zvk p.b gh.nx) (zkl p.b gh.th) (zid gh.bc) gh.h t->
       TR (muA p.Mu) (⟨p.Wg,0,none⟩:Addr) (zvk p.b gh.nx) (zkl p.b gh.th) (zid gh.bc) gh.h (t++MemOp.ofEvents j fn pos l.toArray):=by
      intro l
      induction l with
      | nil=>intro t _ k
             have e1:MemOp.ofEvents j fn pos ([]:List Event).toArray=#[]:=rfl
             rw [e1,ka4];exact k
      | cons e l ih =>
        intro t h k;have hsplit:t++MemOp.ofEvents j fn pos (e::l).toArray=(t++#[{ g:=j,fn,pos,act:=.ofEvent e }])++MemOp.ofEvents j fn pos l.toArray:=by apply kd8;simp [Conc.ofEvents_eq]
        rw [hsplit];obtain⟨h1,h2⟩:=h e od;exact ih (λe' he'=>h e' (by simp [he'])) (k.push (.inr h1) (.inr (.inl h1)) (h2 _) (h2 _) λx hx=>by rw [h1] at hx;cases hx)
   have:=key es.toList (λe he=>⟨hnt e (oa he),λa ha=>by
    have hme:=hm e (oa he);obtain⟨loc,wr,sy⟩:=e;cases loc with
    | mark m=>cases m<;>simp [MemAct.ofEvent] at ha
              simp [Event.mute] at hme
    | obj c=>cases wr<;>cases sy<;>simp [MemAct.ofEvent] at ha
    | _=>simp [MemAct.ofEvent] at ha⟩) k.tr
   simpa using this
  .rw [zes];split
   .rename_i e;subst e;rcases h with h|h
    .omega
    .exact absurd hov' h
   .exact k.deaf i hi h
  .rw [zes];split
   .rename_i e;subst e;exact absurd hj (kd6.2 hi)
   .exact k.above i hi
end Go.Kp
namespace Go.Kp
open Go Go.Conc
section
structure Jdg where
 P:Program
 main:Bool
 St:Type
 J:St->Goroutine->World->Prop
 See:St->World->World->Prop
 Ok:St->World->World->Array Event->St->Prop
 step:∀{s:St} {g:Goroutine} {w:World},g.status=.running->g.offers=none->
  (∀w1,See s w w1->∃g' w' es s',stepG P main g w1=.go g' w' es/\g'.status=.running/\Ok s w1 w' es s'/\J s' g' w')->J s g w
 rely:∀{s:St} {g:Goroutine} {w w1:World},See s w w1->J s g w->J s g w1
 ctl_:∀{s:St} {g g':Goroutine} {w:World},g.status=.running->g.offers=none->g'.status=.running->(∀w,stepG P main g w=.go g' w #[])->J s g' w->J s g w
variable{D:Jdg}
theorem Jdg.ctl{s:D.St}{g g':Goroutine}{w:World}(hr:g.status=.running)(ho:g.offers=none)(hr':g'.status=.running)(h:∀w,stepG D.P D.main g w=.go g' w #[])(hj:D.J s g' w):D.J s g w:=D.ctl_ hr ho hr' h hj
def zs8(D:Jdg)(b:Frame)(k:List Item)(cs:List Frame):Exit->D.St->Act->World->Prop
 | .normal,s,a,w=>D.J s (G (b.at a k) cs) w
 | .exit id,s,a,w=>∃k',exitTo id k=some k'/\D.J s (G (b.at a k') cs) w
 | .ret,s,a,w=>∀todo,D.J s (G { b.at a todo with mode:=.returning } cs) w
 | _,_,_,_=>False
theorem zs8.push{b:Frame}{x:Item}{k:List Item}{cs:List Frame}{e:Exit}{s:D.St}{a:Act}{w:World}(hx:x.plain=true)(he:e≠.normal)(h:zs8 D b k cs e s a w):zs8 D b (x::k) cs e s a w:=by
 cases e with
 | normal=>exact absurd rfl he
 | exit id=>obtain⟨k',hk,hg⟩:=h;exact⟨k',by cases x<;>first|exact hk|(simp [Item.plain] at hx),hg⟩
 | ret=>exact h
 | goto l=>exact h
 | panic ch=>exact h
 | outgrown=>exact h
def WpJ(D:Jdg)(fn:FuncId)(c:Code)(Q:Exit->D.St->Act->World->Prop)(s:D.St)(a:Act)(w:World):Prop :=
 ∀(b:Frame) (k:List Item) (cs:List Frame),b.fn=fn->b.kind≠.early->(∀e s' a' w',Q e s' a' w'->zs8 D b k cs e s' a' w')->D.J s (G (b.at a (.code c::k)) cs) w
def zbk(D:Jdg)(fn:FuncId)(ops:Array Oper)(todo:List Nat)(Q:Exit->D.St->Act->World->Prop)(s:D.St)(a:Act)(w:World):Prop :=
 ∀(b:Frame) (k:List Item) (cs:List Frame),b.fn=fn->b.kind≠.early->(∀e s' a' w',Q e s' a' w'->zs8 D b k cs e s' a' w')->D.J s (G (b.at a (.inRegion ops todo::k)) cs) w
def zjf{α:Type}(K:α->Act->World->Prop)(Q:Exit->α->Act->World->Prop):Exit->α->Act->World->Prop
 | .normal,s,a,w=>K s a w
 | e,s,a,w=>Q e s a w
def blockJ{α:Type}(id:Nat)(Q:Exit->α->Act->World->Prop):Exit->α->Act->World->Prop
 | .exit id',s,a,w=>if id'=id then Q .normal s a w else Q (.exit id') s a w
 | e,s,a,w=>Q e s a w
section
variable{fn:FuncId}{Q:Exit->D.St->Act->World->Prop}{s:D.St}{a:Act}{w:World}
theorem zu4{c:Code}{Q':Exit->D.St->Act->World->Prop}(h:WpJ D fn c Q s a w)(hq:∀e s a w,Q e s a w->Q' e s a w):WpJ D fn c Q' s a w :=
 λb k cs hb hk hc=>h b k cs hb hk λe s' a' w' q=>hc e s' a' w' (hq _ _ _ _ q)
theorem z0h{ops:Array Oper}{todo:List Nat}{w1:World}(h:zbk D fn ops todo Q s a w)(hs:D.See s w w1):zbk D fn ops todo Q s a w1:=λb k cs hb hk hc=>D.rely hs (h b k cs hb hk hc)
theorem zap(h:Q .normal s a w):WpJ D fn .skip Q s a w:=λ_ _ _ _ _ hc=>Jdg.ctl rfl rfl rfl (λ_=>stepG_skip) (hc _ _ _ _ h)
theorem zbc(h:Q .ret s a w):WpJ D fn .ret Q s a w:=λ_ _ _ _ _ hc=>Jdg.ctl rfl rfl rfl (λ_=>stepG_ret') (hc _ _ _ _ h _)
theorem zih{id:Nat}(h:Q (.exit id) s a w):WpJ D fn (.exit id) Q s a w:=λ_ _ _ _ _ hc=>by obtain⟨k',hk',hg⟩:=hc _ _ _ _ h;exact Jdg.ctl rfl rfl rfl (λ_=>stepG_exit hk') hg
theorem zaf{x y:Code}(h:WpJ D fn x (zjf (λs a w=>WpJ D fn y Q s a w) Q) s a w):WpJ D fn (.seq x y) Q s a w:=by
 intro b k cs hb hk hc;refine Jdg.ctl rfl rfl rfl (λ_=>stepG_seq) (h b (.code y::k) cs hb hk λe s' a' w' q=>?_);cases e with
 | normal=>exact q b k cs hb hk hc
 | exit id=>exact(hc _ _ _ _ q).push rfl od
 | ret=>exact(hc _ _ _ _ q).push (x:=.code y) rfl od
 | goto l=>exact hc _ _ _ _ q
 | panic ch=>exact hc _ _ _ _ q
 | outgrown=>exact hc _ _ _ _ q
theorem zfr{x y:Code}(M:D.St->Act->World->Prop)(hx:WpJ D fn x (zjf M Q) s a w)(hy:∀s' a' w',M s' a' w'->WpJ D fn y Q s' a' w'):WpJ D fn (.seq x y) Q s a w :=
 zaf (zu4 hx λe s a w q=>by cases e<;>first|exact hy _ _ _ q|exact q)
theorem zdm{c:Operand}{x y:Code}{t:Bool}(hc:a.eval c=.bool t)(h:WpJ D fn (if t then x else y) Q s a w):WpJ D fn (.cond c x y) Q s a w :=
 λb k cs hb hk hq=>Jdg.ctl rfl rfl rfl (λ_=>stepG_cond hc) (h b k cs hb hk hq)
theorem zbq{id:Nat}{c:Code}(h:WpJ D fn c (blockJ id Q) s a w):WpJ D fn (.block id c) Q s a w:=by
 intro b k cs hb hk hc;refine Jdg.ctl rfl rfl rfl (λ_=>stepG_block) (h b (.inBlock id::k) cs hb hk λe s' a' w' q=>?_);cases e with
 | normal=>exact Jdg.ctl rfl rfl rfl (λ_=>stepG_inBlock) (hc _ _ _ _ q)
 | exit id' =>
   by_cases hid:id'=id
   .simp only [blockJ,hid,if_true] at q;exact⟨k,by simp [exitTo,hid],hc _ _ _ _ q⟩
   .simp only [blockJ,hid,if_false] at q;obtain⟨k',hk',hg⟩:=hc _ _ _ _ q;have:(id == id')=false:=by simp;exactλh=>hid h.symm
    exact⟨k',by simp [exitTo,this,hk'],hg⟩
 | ret=>exact hc _ _ _ _ q
 | goto l=>exact hc _ _ _ _ q
 | panic ch=>exact hc _ _ _ _ q
 | outgrown=>exact hc _ _ _ _ q
theorem zfs{c:Code}{α:Type}{r:α->α->Prop}(wf:WellFounded r)(I:α->D.St->Act->World->Prop)(x:α)(h0:I x s a w)
  (round:∀x s a w,I x s a w->WpJ D fn c (zjf (λs' a' w'=>∃y,r y x/\I y s' a' w') Q) s a w):WpJ D fn (.loop c) Q s a w:=by
 intro b k cs hb hk hc
 have key:∀x s a w,I x s a w->D.J s (G (b.at a (.code c::.inLoop c::k)) cs) w:=by
  intro x;induction x using wf.induction with
  | _ x ih =>
    intro s a w hI;refine round x s a w hI b (.inLoop c::k) cs hb hk λe s' a' w' q=>?_;cases e with
    | normal=>obtain⟨y,hy,hI'⟩:=q;exact Jdg.ctl rfl rfl rfl (λ_=>stepG_inLoop) (ih y hy _ _ _ hI')
    | exit id=>exact(hc _ _ _ _ q).push rfl od
    | ret=>exact(hc _ _ _ _ q).push (x:=.inLoop c) rfl od
    | goto l=>exact hc _ _ _ _ q
    | panic ch=>exact hc _ _ _ _ q
    | outgrown=>exact hc _ _ _ _ q
 exact Jdg.ctl rfl rfl rfl (λ_=>stepG_loop) (key x s a w h0)
theorem zxl{id:Nat}{ops:Array Oper}(h:zbk D fn ops (List.range ops.size) Q s a w):WpJ D fn (.region id ops false) Q s a w :=
 λb k cs hb hk hc=>Jdg.ctl rfl rfl rfl (λ_=>stepG_region) (h b k cs hb hk hc)
theorem zad{ops:Array Oper}(h:Q .normal s a w):zbk D fn ops [] Q s a w:=λ_ _ _ _ _ hc=>Jdg.ctl rfl rfl rfl (λ_=>stepG_region_end) (hc _ _ _ _ h)
theorem ze8{ops:Array Oper}{i:Nat}{rest:List Nat}{o:Oper}(ho:ops[i]?=some o)(hw:Region.wanted o (yielded ops a.tmps)=true)
  (h:∀w₁,D.See s w w₁->uponK o a (λa' w'=>∃s',D.Ok s w₁ w' (listed D.P fn a o w₁) s'/\zbk D fn ops rest Q s' a' w') ((execOp a.eval o).run D.P w₁)):zbk D fn ops (i::rest) Q s a w:=by
 intro b k cs hb hk hc
 refine D.step rfl rfl λw₁ h₁=>?_
 have:=h w₁ h₁
 generalize hr:(execOp a.eval o).run D.P w₁=r at this
 match r,this with
 | .ok (.value v) w',⟨s',h1,h2⟩=>exact⟨_,_,_,s',stepG_value ho hw hk hr,rfl,hb▸h1,h2 b k cs hb hk hc⟩
 | .ok .skip w',⟨s',h1,h2⟩=>exact⟨_,_,_,s',stepG_none ho hw hk hr,rfl,hb▸h1,h2 b k cs hb hk hc⟩
theorem z0j{ops:Array Oper}{i:Nat}{rest:List Nat}{o:Oper}(v:Value)(ho:ops[i]?=some o)(hw:Region.wanted o (yielded ops a.tmps)=true)
  (hr:∀w₁,(execOp a.eval o).run D.P w₁=.ok (.value v) w₁) (he:∀w₁,(execOp a.eval o).events D.P w₁ #[]=#[]) (h:zbk D fn ops rest Q s (a.put o.dst v) w):zbk D fn ops (i::rest) Q s a w :=
 λb k cs hb hk hc=>Jdg.ctl rfl rfl rfl (λw₁=>by rw [stepG_value ho hw hk (hr w₁),listed_nil (he w₁)]) (h b k cs hb hk hc)
theorem z0i{ops:Array Oper}{i:Nat}{rest:List Nat}{o:Oper}(v:Value)(ho:ops[i]?=some o)(hw:Region.wanted o (yielded ops a.tmps)=true)
  (hr:∀w₁,D.See s w w₁->(execOp a.eval o).run D.P w₁=.ok (.value v) w₁/\D.Ok s w₁ w₁ (listed D.P fn a o w₁) s) (h:zbk D fn ops rest Q s (a.put o.dst v) w):zbk D fn ops (i::rest) Q s a w :=
 ze8 ho hw λw₁ h₁=>by rw [(hr w₁ h₁).1];exact⟨s,(hr w₁ h₁).2,z0h h h₁⟩
theorem ziq{ops:Array Oper}{i:Nat}{rest:List Nat}{o:Oper}(ho:ops[i]?=some o)(hw:Region.wanted o (yielded ops a.tmps)=false)
  (h:zbk D fn ops rest Q s (a.put o.dst undef) w):zbk D fn ops (i::rest) Q s a w :=
 λb k cs hb hk hc=>Jdg.ctl rfl rfl rfl (λ_=>stepG_unwanted ho hw) (h b k cs hb hk hc)
def zi7(P:Program)(fn:Func){α:Type}(Post:α->Value->World->Prop):Exit->α->Act->World->Prop
 | .normal,s,a,w|.ret,s,a,w=>a.defers=[]/\∃v,ResultsC P fn a.tmps v/\Post s v w
 | _,_,_,_=>False
def zbv(D:Jdg)(f:FuncId)(args:Array Value)(s:D.St)(w:World)(Post:D.St->Value->World->Prop):Prop :=
 ∃ fn c, D.P.funcs[f]? = some fn /\ (fn.name == "runtime.NumGoroutine") = false /\ fn.body = some c /\
   WpJ D f c (zi7 D.P fn Post) s { tmps:=args++Array.replicate (fn.ntmps-args.size) undef,defers:=[] } w
theorem z2m {f : FuncId} {fn : Func} {c : Code} {args : Array Value} {Post : D.St -> Value -> World -> Prop} (hf : D.P.funcs[f]? = some fn) (hname : (fn.name == "runtime.NumGoroutine") = false) (hb : fn.body = some c)
 (h:WpJ D f c (zi7 D.P fn Post) s { tmps:=args++Array.replicate (fn.ntmps-args.size) undef,defers:=[] } w):zbv D f args s w Post:=⟨fn,c,hf,hname,hb,h⟩
theorem zbv.back{f:FuncId}{args:Array Value}{Post:D.St->Value->World->Prop}(hcall:zbv D f args s w Post){c:Frame}{cs:List Frame}
  (hnext:∀s' v w',Post s' v w'->(c.finish v).mode=.run->D.J s' (G (c.finish v) cs) w') (hm:∀v,(c.finish v).mode=.run):D.J s (G (Frame.enter D.P f args .normal) (c::cs)) w:=by
 obtain⟨fn,code,hf,hname,hbody,hwp⟩:=hcall
 have hleave:∀(s':D.St) (a':Act) (w':World) (todo:List Item),(a'.defers=[]/\∃v,ResultsC D.P fn a'.tmps v/\Post s' v w')->D.J s' (G { (base f).at a' todo with mode:=.returning } (c::cs)) w':=by rintro s' a' w' todo ⟨hd,v,hr,hp⟩;exact Jdg.ctl rfl rfl rfl (λw₁=>stepG_leave (b:=base f) rfl hd hf (hr w₁).1 (hr w₁).2) (hnext s' v w' hp (hm v))
 rw [enter_at _ hf hbody]
 refine hwp (base f) [] _ rfl oU λe s' a' w' q=>?_
 cases e with
 | normal=>exact Jdg.ctl rfl rfl rfl (λ_=>stepG_end) (hleave s' a' w' [] q)
 | ret=>exactλtodo=>hleave s' a' w' todo q
 | exit id=>exact q.elim
 | goto l=>exact q.elim
 | panic ch=>exact q.elim
 | outgrown=>exact q.elim
theorem z0l{ops:Array Oper}{i:Nat}{rest:List Nat}{o:Oper}{f:FuncId}{args:Array Operand}{ats:Array TypeId}{Post:D.St->Value->World->Prop}
  (ho:ops[i]?=some o) (hw:Region.wanted o (yielded ops a.tmps)=true) (hop:o.op=.call { callee:=.value (.func f),args,argTypes:=ats })
  (hcall:zbv D f (args.map a.eval) s w Post) (hnext:∀s' v w',Post s' v w'->zbk D fn ops rest Q s' (a.put o.dst v) w'):zbk D fn ops (i::rest) Q s a w:=by
 intro b k cs hb hk hc
 have hfin:∀v,(b.at a (.inRegion ops (i::rest)::k)).finish v=b.at (a.put o.dst v) (.inRegion ops rest::k):=λv=>by rw [Frame.finish_at,ho];rfl
 have hb':=hcall
 obtain⟨fn',code,hf,hname,hbody,_⟩:=hb'
 have hbn:fn'.body.isNone=false:=by rw [hbody];rfl
 refine Jdg.ctl rfl rfl rfl (λw₁=>?_) (hcall.back (c:=b.at a (.inRegion ops (i::rest)::k)) (cs:=cs) (λs' v w' hp _=>?_) λv=>by rw [hfin];rfl)
 .rw [stepG_enter ho hw hk (run_call_body hop hf hname hbn)];have:listed D.P b.fn a o w₁=#[]:=by unfold listed;rw [events_call_body hop hf hname hbn];exact seen_none D.P _
  rw [this]
 .rw [hfin];exact hnext s' v w' hp b k cs hb hk hc
theorem zx1{ops:Array Oper}{i:Nat}{rest:List Nat}{o:Oper}{f:FuncId}{args:Array Value}{Post:D.St->Value->World->Prop}
  (ho:ops[i]?=some o) (hw:Region.wanted o (yielded ops a.tmps)=true) (hr:∀w₁,(execOp a.eval o).run D.P w₁=.ok (.enter f args) w₁) (he:∀w₁,(execOp a.eval o).events D.P w₁ #[]=#[])
  (hcall:zbv D f args s w Post) (hnext:∀s' v w',Post s' v w'->zbk D fn ops rest Q s' (a.put o.dst v) w'):zbk D fn ops (i::rest) Q s a w:=by
 intro b k cs hb hk hc
 have hfin:∀v,(b.at a (.inRegion ops (i::rest)::k)).finish v=b.at (a.put o.dst v) (.inRegion ops rest::k):=λv=>by rw [Frame.finish_at,ho];rfl
 refine Jdg.ctl rfl rfl rfl (λw₁=>?_) (hcall.back (c:=b.at a (.inRegion ops (i::rest)::k)) (cs:=cs) (λs' v w' hp _=>?_) λv=>by rw [hfin];rfl)
 .rw [stepG_enter ho hw hk (hr w₁),listed_nil (he w₁)]
 .rw [hfin];exact hnext s' v w' hp b k cs hb hk hc
end
end
end Go.Kp
namespace Go.Kp
open Go Go.Conc
open Go.ConcN (sumTo upd sumTo_upd upd_ne upd_same)
section
variable{P:Program}{Post:Value->World->Prop}{Gb:Nat->Prop}
theorem Past.gb{Gb Gb':Nat->Prop}{B:Nat}{t:Trace}(h:Past (zja Gb) B t)(hb:∀x,Gb x->Gb' x):Past (zja Gb') B t:=by
 refine⟨h.clean,λi a ha hm=>(h.known i a ha hm).imp id λ⟨h1,h2⟩=>⟨?_,h2⟩,h.over,h.hears,h.seen⟩;revert h1;cases a.loc with
 | cell ad=>exact hb _
 | obj r=>exact hb _
 | _=>exact id
theorem z8z.weaken{B B':Nat}{Gb Gb':Nat->Prop}{g:Goroutine}{w:World}(h:z8z P Post Gb' B' g w)(hB:B<=B')(hb:∀x,Gb x->Gb' x):z8z P Post Gb B g w :=
 λgs sl t q h1 h2 h3 h4=>h gs sl t q h1 h2 (Past.gb (h3.mono hB) hb) h4
end
structure FSt where
 Gb:Nat->Prop
 B:Nat
def jdgF(P:Program)(Post:Value->World->Prop):Jdg where
 P:=P
 main:=true
 St:=FSt
 J s g w:=∀d,z8z P Post s.Gb s.B g (w.at d)
 See _ w w1:=∃d,w1=w.at d
 Ok s _ _ es s':=(∀x,s.Gb x->s'.Gb x)/\s.B<=s'.B/\∀e∈es,EvL (zja s.Gb) s'.B e
 step {s g w} hr _ h:=λd0=>zm1 hr λd=>by obtain⟨g',w',es,s',h1,_,⟨h3,h4,h5⟩,h6⟩:=h (w.at d) ⟨d,rfl⟩;exact⟨g',w',es,s'.B,h1,h4,h5,(h6 w'.drawn).weaken (kac _) h3⟩
 rely {s g w w1} hs h:=by obtain⟨d,rfl⟩:=hs;exactλd'=>h d'
 ctl_ {s g g' w} hr _ _ h hj:=λd0=>zm1 hr λd=>⟨g',w.at d,#[],s.B,h _,kac _,od,hj d⟩
end Go.Kp
namespace Go.Kp
open Go Go.Conc Go.ConcM
open Go.ConcN (sumTo upd sumTo_upd upd_ne upd_same)
structure PSt where
 n:Nat×Nat
 τ:Thr
 O:Nat->Prop
def grow(O:Nat->Prop)(w w':World):Nat->Prop:=λx=>O x\/(w.heap.size<=x/\x<w'.heap.size)
theorem zc2{O:Nat->Prop}{w w':World}(h:w'.heap.size=w.heap.size):grow O w w'=O:=by
 funext x;apply propext;unfold grow;constructor
 .rintro(e|e)
  .exact e
  .omega
 .exact .inl
def blkOf:Loc->Option Nat
 | .cell a=>some a.block
 | .obj r=>some r
 | _=>none
def EvO(O ro:Nat->Prop)(B:Nat)(e:Event):Prop :=
 (∀x,(MemAct.ofEvent e).touch?=some x->∃k,blkOf x.loc=some k/\(O k\/(ro k/\x.write=false)))/\(∀a,MemAct.ofEvent e≠.mark (.release a))/\e.loc≠.mark .disable/\e.loc≠.mark .enable/\(MemAct.ofEvent e).low B
structure Priv(ro O:Nat->Prop)(w w':World)(es:Array Event):Prop where
 size:w.heap.size<=w'.heap.size
 tape:w'.tape=w.tape
 output:w'.output=w.output
 os:OsLater w.os w'.os
 heap:∀x,x<w.heap.size->¬O x->w'.heap[x]?=w.heap[x]?
 evs:∀e∈es,EvO (grow O w w') ro w'.heap.size e
theorem Priv.idle(ro O:Nat->Prop)(w:World):Priv ro O w w #[]:=⟨kac _,rfl,rfl,.refl _,λ_ _ _=>rfl,od⟩
def zar(i:Nat)(s:PSt):Prop:=s.τ.z≠3/\(i=0->s.τ.s<3)
section
variable{p:Par}{P:Program}{i:Nat}{Ch:Nat->(sys p).Gh->Goroutine->World->Prop}{Lf:(sys p).Th->(Nat->Prop)->Nat×(sys p).Ob->Goroutine->World->Prop}
theorem zt5{s:PSt}{g:Goroutine}{w:World}(hl:zar i s)(hr:g.status=.running)(ho:g.offers=none)
  (h:∀gh w1,(sys p).Env i s.n s.τ s.O w gh w1->((sys p).wt gh i/\stepG P (i == 0) g w1=.go { g with status:=.blocked } w1 #[])\/
    ∃gh' g' w' es,stepG P (i == 0) g w1=.go g' w' es/\g'.status=.running/\zuz p i gh w1 es gh' w' (mayWake P g)/\∃tr,(sys p).JT P i Ch Lf tr ((sys p).now gh' i) (gh'.th i) ((sys p).own gh' i) g' w') :
  ∃tr,(sys p).JT P i Ch Lf tr s.n s.τ s.O g w :=
 Sys.jt_step hr ho hl.1 λgh w1 he=>by
  rcases h gh w1 he with h|⟨gh',g',w',es,h1,h2,h3,h4⟩
  .exact .inl h
  .refine .inr (.inl ⟨gh',g',w',es,h1,h2,h3.nx,h3.keeps,λ_=>h3.df,h3.gi,h4⟩)
theorem z08(hLf:∀τ O n g w w1,zay (λx=>O x\/p.ro x) w w1->Lf τ O n g w->Lf τ O n g w1){tr:Tr ((sys p).Gh×World)}{n:Nat×Nat}{τ:Thr}{O:Nat->Prop}{g:Goroutine}{w w1:World}
  (hs:zay (λx=>O x\/p.ro x) w w1) (h:(sys p).JT P i Ch Lf tr n τ O g w):(sys p).JT P i Ch Lf tr n τ O g w1:=by
 cases tr with
 | leaf=>exact hLf _ _ _ _ _ _ hs h
 | node f=>exact⟨h.1,h.2.1,h.2.2.1,λgh w2 he=>h.2.2.2 gh w2 ⟨he.th,he.own,he.rk,he.lt,hs.trans he.sees,he.gi⟩⟩
theorem zco{s:PSt}{w w1:World}{gh:PG}(he:(sys p).Env i s.n s.τ s.O w gh w1)(hl:zar i s):(gh.th 0).s<3:=by
 obtain⟨t,hG⟩:=he.gi;by_cases h0:i=0
 .subst h0;have:=hl.2 rfl;rw [<-he.th] at this;exact this
 .exact GI.s_lt hG oc he.lt (by rw [show gh.th i=s.τ from he.th];exact hl.1)
theorem zyh{gh:PG}{n n' B:Nat}{e:Event}(h:EvO (λx=>((gh.bc x=.pri i\/(gh.bc x=.gua/\gh.h=some i))\/(n<=x/\x<n'))) p.ro B e)(hro:∀x,p.ro x->gh.bc x=.ro)(a b:Addr) :
  EvP a b (zid (zdi i gh.bc n n')) gh.h i e:=by
 obtain⟨h1,h2,h3,h4,_⟩:=h
 refine⟨λx hx=>?_,h2 a,h2 b,h3,h4⟩
 obtain⟨k,hk,hO⟩:=h1 x hx
 have hcl:zid (zdi i gh.bc n n') x.loc=zdi i gh.bc n n' k:=by
  revert hk;cases x.loc with
  | cell a=>intro hk;cases hk;rfl
  | obj r=>intro hk;cases hk;rfl
  | _=>intro hk;cases hk
 rw [hcl]
 by_cases hn:n<=k/\k<n'
 .left;simp [zdi,hn]
 .have e1:zdi i gh.bc n n' k=gh.bc k:=by simp [zdi,hn]
  rw [e1];rcases hO with ((hO|hO)|hO)|⟨hO,hw⟩
  .exact .inl hO
  .exact .inr (.inl hO)
  .exact absurd hO hn
  .exact .inr (.inr ⟨hro k hO,hw⟩)
def JOk(p:Par)(i:Nat)(s:PSt)(w w':World)(es:Array Event)(s':PSt):Prop :=
 zar i s->(s'.τ=s.τ/\s'.n=s.n/\s'.O=grow s.O w w'/\(s.τ.z=0\/∀e∈es,(MemAct.ofEvent e).touch?=none)/\Priv p.ro s.O w w' es)
theorem JOk.idle(p:Par)(i:Nat)(s:PSt)(w:World):JOk p i s w w #[] s:=λ_=>⟨rfl,rfl,(zc2 rfl).symm,.inr od,Priv.idle _ _ _⟩
theorem JOk.draw(p:Par)(i:Nat)(s:PSt)(w:World):JOk p i s w { w with drawn:=w.drawn+1 } #[] s:=λ_=>⟨rfl,rfl,(zc2 rfl).symm,.inr od,⟨kac _,rfl,rfl,.refl _,λ_ _ _=>rfl,od⟩⟩
theorem zv7(hst:yp0 p)(hLn:∀τ O n n' g w,(sys p).Le n' n->Lf τ O n g w->Lf τ O n' g w)
  {s:PSt} {g:Goroutine} {w:World} (hr:g.status=.running) (ho:g.offers=none)
  (h:∀w1,zay (λx=>s.O x\/p.ro x) w w1->∃g' w' es s',stepG P (i == 0) g w1=.go g' w' es/\g'.status=.running/\JOk p i s w1 w' es s'/\(zar i s'->∃tr,(sys p).JT P i Ch Lf tr s'.n s'.τ s'.O g' w')) (hl:zar i s) :
  ∃tr,(sys p).JT P i Ch Lf tr s.n s.τ s.O g w:=by
 refine zt5 hl hr ho λgh w1 he=>.inr ?_
 obtain⟨g',w',es,s',h1,h2,h3,h4⟩:=h w1 he.sees
 obtain⟨k1,k2,k3,k4,k5⟩:=h3 hl
 obtain⟨t,hG⟩:=he.gi
 have hth:gh.th i=s.τ:=he.th
 have hown:(λx=>gh.bc x=.pri i\/(gh.bc x=.gua/\gh.h=some i))=s.O:=he.own
 have hgrow:grow s.O w1 w'=λx=>(gh.bc x=.pri i\/(gh.bc x=.gua/\gh.h=some i))\/(w1.heap.size<=x/\x<w'.heap.size):=by unfold grow;rw [<-hown]
 refine⟨{ gh with bc:=zdi i gh.bc w1.heap.size w'.heap.size },g',w',es,h1,h2,?_,?_⟩
 .refine ybw hst hG he.lt oR (zco he hl) (by rw [hth];exact k4) k5.size k5.tape k5.output k5.os (λx hx hno=>k5.heap x hx (by rw [<-hown];exact hno)) (λe hee=>?_) (λe hee=>(k5.evs e hee).2.2.2.2);have:=k5.evs e hee;rw [hgrow] at this;exact zyh this (λx=>(hG.ro x).2) _ _
 .have hl':zar i s':=by unfold zar;rw [k1];exact hl
  obtain⟨tr,hj⟩:=h4 hl';have hown':(sys p).own { gh with bc:=zdi i gh.bc w1.heap.size w'.heap.size } i=s'.O:=by
   rw [k3,hgrow];funext x;apply propext;show(zdi i gh.bc w1.heap.size w'.heap.size x=.pri i\/(zdi i gh.bc w1.heap.size w'.heap.size x=.gua/\gh.h=some i))↔_;by_cases hn:w1.heap.size<=x/\x<w'.heap.size
   .simp [zdi,hn]
   .simp [zdi,hn]
  refine⟨tr,Sys.jt_later (λτ O g w=>hLn τ O _ _ g w (by rw [k2];exact he.rk)) (n:=s'.n) ?_ ?_⟩
  .rw [hown'];rw [show gh.th i=s'.τ by rw [k1];exact hth];exact hj
  .rw [k2];exact he.rk
structure zkv(p:Par)(P:Program)(i:Nat) where
 Ch:Nat->(sys p).Gh->Goroutine->World->Prop
 Lf:(sys p).Th->(Nat->Prop)->Nat×(sys p).Ob->Goroutine->World->Prop
 hLf:∀τ O n g w w1,zay (λx=>O x\/p.ro x) w w1->Lf τ O n g w->Lf τ O n g w1
 hLn:∀τ O n n' g w,(sys p).Le n' n->Lf τ O n g w->Lf τ O n' g w
 Tl:PSt->Goroutine->World->Prop
 tctl:∀{s:PSt} {g g':Goroutine} {w:World},g.status=.running->g'.status=.running->(∀w,stepG P (i == 0) g w=.go g' w #[])->Tl s g' w->Tl s g w
 trely:∀{s:PSt} {g:Goroutine} {w w1:World},¬zar i s->zay (λx=>s.O x\/p.ro x) w w1->Tl s g w->Tl s g w1
 last:∀{s:PSt} {g:Goroutine} {w:World},¬zar i s->Tl s g w->∃tr,(sys p).JT P i Ch Lf tr s.n s.τ s.O g w
def jdg(p:Par)(hst:yp0 p)(P:Program)(i:Nat)(S:zkv p P i):Jdg where
 P:=P
 main:=i == 0
 St:=PSt
 J s g w:=(zar i s->∃tr,(sys p).JT P i S.Ch S.Lf tr s.n s.τ s.O g w)/\(¬zar i s->S.Tl s g w)
 See s w w1:=zay (λx=>s.O x\/p.ro x) w w1
 Ok s w w' es s':=zar i s/\JOk p i s w w' es s'
 step {s g w} hr ho h:=by
  have hl:zar i s:=by obtain⟨_,_,_,_,_,_,h3,_⟩:=h w (zay.refl _ _);exact h3.1
  refine⟨λ_=>zv7 hst S.hLn hr ho (λw1 hs=>?_) hl,λhn=>absurd hl hn⟩;obtain⟨g',w',es,s',h1,h2,h3,h4⟩:=h w1 hs;exact⟨g',w',es,s',h1,h2,h3.2,h4.1⟩
 rely {s g w w1} hs h:=by refine⟨λhl=>?_,λhn=>S.trely hn hs (h.2 hn)⟩;obtain⟨tr,hj⟩:=h.1 hl;exact⟨tr,z08 S.hLf hs hj⟩
 ctl_ {s g g' w} hr ho hr' h hj:=by refine⟨λhl=>zv7 hst S.hLn hr ho (λw1 hs=>⟨g',w1,#[],s,h w1,hr',JOk.idle p i s w1,λhl=>?_⟩) hl,λhn=>S.tctl hr hr' h (hj.2 hn)⟩;obtain⟨tr,hj⟩:=hj.1 hl;exact⟨tr,z08 S.hLf hs hj⟩
theorem zt6{hst:yp0 p}{S:zkv p P i}{s:PSt}{g:Goroutine}{w:World}(h:(jdg p hst P i S).J s g w):∃tr,(sys p).JT P i S.Ch S.Lf tr s.n s.τ s.O g w:=by
 by_cases hl:zar i s
 .exact h.1 hl
 .exact S.last hl (h.2 hl)
end
theorem zi2{a b:Addr}{cl:Loc->Cls}{h:Option Nat}{g d:Nat}{x:Addr}{wr:Bool}(hc:cl (.cell x)=.shr)(hd:0<d\/g=0):znj a b cl h g d [⟨.cell x,wr,true⟩] :=
 ⟨by simp [MemAct.ofEvent],by simp [MemAct.ofEvent],λy hy=>by
   have:y=⟨.cell x,wr,.atomic⟩:=by simpa [MemAct.ofEvent,MemAct.touch?] using hy.symm
   subst this;exact .inr (.inr (.inr ⟨hc,.inl rfl,hd⟩)),trivial⟩
theorem zef{a b:Addr}{cl:Loc->Cls}{h:Option Nat}{g d:Nat}{x:Addr}{wr:Bool}{es:List Event}(hc:cl (.cell x)=.shr)(hd:0<d\/g=0)(he:znj a b cl h g d es):znj a b cl h g d (⟨.cell x,wr,true⟩::es):=by obtain⟨h1,h2,h3,_⟩:=zi2 (a:=a) (b:=b) (cl:=cl) (h:=h) (g:=g) (d:=d) (x:=x) (wr:=wr) hc hd;exact⟨h1,h2,h3,he⟩
theorem z16{a b:Addr}{cl:Loc->Cls}{h:Option Nat}{g d:Nat}{x:Addr}(hc:cl (.cell x)=.shr):znj a b cl h g d (semEvents x).toList:=by
 refine⟨by simp [MemAct.ofEvent],by simp [MemAct.ofEvent],λy hy=>by simp [MemAct.ofEvent,MemAct.touch?] at hy,?_⟩;have e1:deafBehind d #[⟨.mark .disable,false,true⟩]=d+1:=rfl;rw [e1];refine zef hc (.inl oc) (zef hc (.inl oc) ?_);exact⟨by simp [MemAct.ofEvent],by simp [MemAct.ofEvent],λy hy=>by simp [MemAct.ofEvent,MemAct.touch?] at hy,trivial⟩
theorem zcs{cl:Loc->Cls}{x:Addr}{wr:Bool}(hc:cl (.cell x)=.shr):∀y,(MemAct.ofEvent ⟨.cell x,wr,true⟩).touch?=some y->cl y.loc=.shr:=λy hy=>by
 have:y=⟨.cell x,wr,.atomic⟩:=by simpa [MemAct.ofEvent,MemAct.touch?] using hy.symm
 subst this;exact hc
inductive znf(x:Addr):Array Event->Prop
 | r:znf x #[⟨.cell x,false,true⟩]
 | w:znf x #[⟨.cell x,true,true⟩]
 | rw:znf x #[⟨.cell x,false,true⟩,⟨.cell x,true,true⟩]
 | sem:znf x (semEvents x)
 | none:znf x #[]
theorem znf.ok{x:Addr}{es:Array Event}(h:znf x es){a b:Addr}{cl:Loc->Cls}{ho:Option Nat}{g d B:Nat}(hc:cl (.cell x)=.shr)(hd:0<d\/g=0)(hB:x.block<B) :
  znj a b cl ho g d es.toList/\(∀e∈es,∀y,(MemAct.ofEvent e).touch?=some y->cl y.loc=.shr)/\(∀e∈es,(MemAct.ofEvent e).low B)/\deafBehind d es=d:=by
 cases h with
 | r=>exact⟨zi2 hc hd,λe he=>by simp at he;subst he;exact zcs hc,λe he=>by simp at he;subst he;exact hB,rfl⟩
 | w=>exact⟨zi2 hc hd,λe he=>by simp at he;subst he;exact zcs hc,λe he=>by simp at he;subst he;exact hB,rfl⟩
 | rw=>exact⟨zef hc hd (zi2 hc hd),λe he=>by simp at he;rcases he with rfl|rfl<;>exact zcs hc,λe he=>by simp at he;rcases he with rfl|rfl<;>exact hB,rfl⟩
 | sem =>
   refine⟨z16 hc,λe he=>?_,λe he=>?_,by simp [semEvents,deafBehind]⟩
   .simp [semEvents] at he;rcases he with rfl|rfl|rfl|rfl
    .intro y hy;simp [MemAct.ofEvent,MemAct.touch?] at hy
    .exact zcs hc
    .exact zcs hc
    .intro y hy;simp [MemAct.ofEvent,MemAct.touch?] at hy
   .simp [semEvents] at he;rcases he with rfl|rfl|rfl|rfl
    .trivial
    .exact hB
    .exact hB
    .trivial
 | none=>exact⟨trivial,od,od,rfl⟩
theorem z2b{p:Par}(hst:yp0 p){i:Nat}{gh:PG}{w w':World}{es:Array Event}{wk:Bool}{t0:Trace}(h0:GI p gh w t0)(hi:i<gh.nx)(h3:(gh.th 0).s<3)(h00:0<i)(hz:(gh.th i).z=0)
  (hhd:(gh.th i).hd=false) (hd:0<(gh.th i).d) {r':zif} {k':Nat} {wd':Wd} (m:zc9 (gh.th i).r r' gh.wd wd') (hk:k'+(if (gh.th i).r=.out then 1 else 0)=(gh.th i).k)
  (hmu:MuAt p.tM p.Mu w' (wd'.word:Int) (wd'.T:Int)) (hsame:∀x,x≠p.Mu->w'.heap[x]?=w.heap[x]?) (hs:w'.heap.size=w.heap.size) (htape:w'.tape=w.tape) (hout:w'.output=w.output) (hos:OsLater w.os w'.os)
  {x:Addr} (hx:x.block=p.Mu) (hes:znf x es) (hwk:wk=true\/(gh.wd.T=0->wd'.T=0)) :
  zuz p i gh w es { gh with th:=upd gh.th i { gh.th i with r:=r',k:=k' },wd:=wd' } w' wk:=by
 have hcl:zid gh.bc (.cell x)=.shr:=by show gh.bc x.block=.shr;rw [hx];exact(h0.shr _).2 (.inl rfl)
 have hB:x.block<w.heap.size:=by rw [hx];exact h0.sz _ (by rw [(h0.shr _).2 (.inl rfl)];simp)
 obtain⟨k1,k2,k3,k4⟩:=hes.ok (a:=muA p.Mu) (b:=⟨p.Wg,0,none⟩) (ho:=gh.h) (g:=i) (d:=(gh.th i).d) hcl (.inl hd) hB
 have hcap:i<p.cap:=by have:=h0.nx;omega
 have e1:∀j,j≠i->(upd gh.th i { gh.th i with r:=r',k:=k' } j).r=(gh.th j).r:=λj hj=>by rw [upd_ne _ _ hj]
 have e2:∀j,j≠i->(upd gh.th i { gh.th i with r:=r',k:=k' } j).k=(gh.th j).k:=λj hj=>by rw [upd_ne _ _ hj]
 have hcz:∀f:Nat->Bool,zcv p.b gh.nx (upd gh.th i { gh.th i with r:=r',k:=k' }) f=zcv p.b gh.nx gh.th f:=λf=>zqc rfl
 have h0i:upd gh.th i { gh.th i with r:=r',k:=k' } 0=gh.th 0:=upd_ne _ _ oc
 refine zhm hst h0 hi oc h3 { gh.th i with r:=r',k:=k' } wd' gh.v gh.ww gh.wT rfl rfl rfl (λ_=>Iff.rfl) (λ_ h=>?_) (λh=>h0.zs i h) (h0.z5 i) (λh=>oc) (λh=>oc) (λh=>?_) hmu ?_ (λy h1 _=>hsame y h1) hs htape hout hos ?_ ?_ k1 k2 k3 k4 ?_ (λ_ _=>⟨rfl,rfl⟩) (hwk.imp id λh=>⟨h,id⟩)
 .have h':1<=(gh.th i).z:=h;omega
 .have h':(gh.th i).hd=true:=h;rw [hhd] at h';cases h'
 .have:=h0.wg;unfold ConcR.WgAt at this |-;rw [hsame p.Wg (Ne.symm h0.ne)];exact this
 .have hc:=z6f (N:=p.cap) (R:=λj=>(gh.th j).r) (R':=λj=>(upd gh.th i { gh.th i with r:=r',k:=k' } j).r) (i:=i) hcap e1;rw [hc];simp only [upd_same];exact m.inv h0.li (zqd (R:=λj=>(gh.th j).r) hcap)
 .have kw:=h0.wi;exact⟨by simp only [hcz,h0i];exact kw.v,λe=>by simp only [h0i] at e;simp only [hcz];exact kw.s0 e,λe=>by simp only [h0i] at e |-;simp only [hcz];exact kw.s1 e,λe=>by simp only [h0i] at e |-;simp only [hcz];exact kw.s2 e,by simp only [h0i];exact kw.a1⟩
 .have hz':(λj=>wz (upd gh.th i { gh.th i with r:=r',k:=k' } j).z)=λj=>wz (gh.th j).z:=zav (λτ=>wz τ.z) rfl;have:=zz7 (R:=λj=>(gh.th j).r) (R':=λj=>(upd gh.th i { gh.th i with r:=r',k:=k' } j).r) (k:=λj=>(gh.th j).k) (k':=λj=>(upd gh.th i { gh.th i with r:=r',k:=k' } j).k) hcap e1 e2 (by simp only [upd_same];exact m) (by simp only [upd_same];exact hk);unfold rkT;rw [hz'];omega
theorem zeg{p:Par}(hst:yp0 p){i:Nat}{gh:PG}{w w':World}{es:Array Event}{wk:Bool}{t0:Trace}(h0:GI p gh w t0)(hi:i<gh.nx)(ho:(gh.th i).z≠3)(h3:(gh.th 0).s<3)
  (hsame:w'.heap=w.heap) (htape:w'.tape=w.tape) (hout:w'.output=w.output) (hos:OsLater w.os w'.os)
  {x:Addr} (hx:es=#[]\/(x.block=p.Mu\/x.block=p.Wg)/\(0<(gh.th i).d\/i=0)) (hes:znf x es) :
  zuz p i gh w es gh w' wk:=by
 have hth:upd gh.th i (gh.th i)=gh.th:=by
  funext j;by_cases hj:j=i
  .subst hj;rw [upd_same]
  .rw [upd_ne _ _ hj]
 have key:znj (muA p.Mu) ⟨p.Wg,0,none⟩ (zid gh.bc) gh.h i (gh.th i).d es.toList/\(∀e∈es,∀y,(MemAct.ofEvent e).touch?=some y->zid gh.bc y.loc=.shr)/\(∀e∈es,(MemAct.ofEvent e).low w.heap.size)/\deafBehind (gh.th i).d es=(gh.th i).d:=by
  rcases hx with rfl|⟨hx,hd⟩
  .exact⟨trivial,od,od,rfl⟩
  .have hs:gh.bc x.block=.shr:=(h0.shr _).2 hx;exact hes.ok hs hd (h0.sz _ (by rw [hs];simp))
 obtain⟨k1,k2,k3,k4⟩:=key
 have:=zhm (wk:=wk) hst h0 hi ho h3 (gh.th i) gh.wd gh.v gh.ww gh.wT (w':=w') (es:=es) rfl rfl rfl (λ_=>Iff.rfl) (λh1 h2=>h0.z1 i h1 h2) (λh=>h0.zs i h) (h0.z5 i) (λh=>by subst h;exact⟨h0.t0.1,h0.t0.2,h3⟩) (λ_=>rfl) (λh=>(h0.ow i h).1)
  (by have:=h0.mu;unfold MuAt at this |-;rw [hsame];exact this) (by have:=h0.wg;unfold ConcR.WgAt at this |-;rw [hsame];exact this) (λy _ _=>by rw [hsame]) (by rw [hsame]) htape hout hos (by rw [hth];exact h0.li) (by rw [hth];exact h0.wi) k1 k2 k3 k4 (by rw [hth];simp) (λ_ _=>⟨rfl,rfl⟩) (.inr ⟨id,id⟩)
 rw [hth] at this
 exact this
section
variable{p:Par}{hst:yp0 p}{P:Program}{i:Nat}{S:zkv p P i}
 {fn:FuncId} {Q:Exit->PSt->Go.Act->World->Prop} {s:PSt} {a:Go.Act} {w:World} {ops:Array Oper} {j:Nat} {rest:List Nat} {o:Oper}
theorem lv{i:Nat}{s:PSt}(hi:0<i)(hz:s.τ.z=0):zar i s:=⟨by rw [hz];decide,λh=>oc⟩
theorem za6(h:zar i s->∀(b:Frame) (k:List Item) (cs:List Frame),b.fn=fn->b.kind≠.early->∀gh w1,(sys p).Env i s.n s.τ s.O w gh w1->
   ((sys p).wt gh i/\stepG P (i == 0) (G (b.at a (.inRegion ops (j::rest)::k)) cs) w1=.go { G (b.at a (.inRegion ops (j::rest)::k)) cs with status:=.blocked } w1 #[])\/
   ∃v gh' w' es,stepG P (i == 0) (G (b.at a (.inRegion ops (j::rest)::k)) cs) w1=.go (G (b.at (a.put o.dst v) (.inRegion ops rest::k)) cs) w' es/\zuz p i gh w1 es gh' w' (mayWake P (G (b.at a (.inRegion ops (j::rest)::k)) cs))/\
    (zbk (jdg p hst P i S) fn ops rest Q ⟨(sys p).now gh' i,gh'.th i,(sys p).own gh' i⟩ (a.put o.dst v) w')) (hl:zar i s) :
  zbk (jdg p hst P i S) fn ops (j::rest) Q s a w:=by
 intro b k cs hb hk hc
 refine⟨λhl=>zt5 hl rfl rfl λgh w1 he=>?_,λhn=>absurd hl hn⟩
 rcases h hl b k cs hb hk gh w1 he with h|⟨v,gh',w',es,h1,h2,h3⟩
 .exact .inl h
 .exact .inr ⟨gh',_,w',es,h1,rfl,h2,zt6 (h3 b k cs hb hk hc)⟩
theorem zke{b:Frame}{k:List Item}{cs:List Frame}{f:FuncId}{aZ:Array Operand}{ats:Array TypeId}(ho:ops[j]?=some o)(hop:o.op=.call { callee:=.value (.func f),args:=aZ,argTypes:=ats }){fnn:Func}(hf:P.funcs[f]?=some fnn)(hb:fnn.body.isNone=true) :
  mayWake P (G (b.at a (.inRegion ops (j::rest)::k)) cs)=true:=by
 have h2:fnn.body=none:=by cases hx:fnn.body<;>simp_all
 have e:(b.at a (.inRegion ops (j::rest)::k)).eval (.func f)=.func (.func f) #[] #[]:=rfl
 unfold mayWake
 simp only [G,Frame.at] at e |-
 simp [ho,hop,e,hf,h2]
theorem zcy(hl:zar i s)(m:Mark)(hm:m=.disable\/m=.enable){f:FuncId}{aZ:Array Operand}{ats:Array TypeId}{fnn:Func}(ho:ops[j]?=some o)(hw:Region.wanted o (yielded ops a.tmps)=true)(hop:o.op=.call { callee:=.value (.func f),args:=aZ,argTypes:=ats })
  (hf : P.funcs[f]? = some fnn) (hname : (fnn.name == "runtime.NumGoroutine") = false) (hb : fnn.body.isNone = true) (hn : Extern.findNext fnn = none)
  (he:Extern.find fnn=some (λ_=>do mark m;pure Extern.Race.none_)) (d':Nat) (hd:d'=deafBehind s.τ.d #[⟨.mark m,false,true⟩])
  (h:∀n' w',(sys p).Le n' s.n->zay (λx=>s.O x\/p.ro x) w w'->zbk (jdg p hst P i S) fn ops rest Q ⟨n',{ s.τ with d:=d' },s.O⟩ (a.put o.dst (.tuple #[])) w') :
  zbk (jdg p hst P i S) fn ops (j::rest) Q s a w:=by
 refine za6 (o:=o) (λhl b k cs hbf hbk gh w1 he'=>.inr ?_) hl
 obtain⟨t,hG⟩:=he'.gi
 have hth:gh.th i=s.τ:=he'.th
 have hd1:=zw7 (wk:=mayWake P (G (b.at a (.inRegion ops (j::rest)::k)) cs)) hG he'.lt oR (zco he' hl) m hm
 refine⟨.tuple #[],_,w1,_,stepG_mark0 m (by rcases hm with rfl|rfl<;>simp) ho hw hbk hop hf hname hb hn he,hd1,?_⟩
 have e1:(({ gh with th:=upd gh.th i { gh.th i with d:=deafBehind (gh.th i).d #[⟨.mark m,false,true⟩] } }:PG).th i)={ s.τ with d:=d' }:=by show upd gh.th i _ i=_;rw [upd_same,hth,hd]
 have e2:(sys p).own { gh with th:=upd gh.th i { gh.th i with d:=deafBehind (gh.th i).d #[⟨.mark m,false,true⟩] } } i=s.O:=he'.own
 have hle:(sys p).Le ((sys p).now { gh with th:=upd gh.th i { gh.th i with d:=deafBehind (gh.th i).d #[⟨.mark m,false,true⟩] } } i) ((sys p).now gh i):=by have:=zhd (p:=p) (gh:=gh) (i:=i) (τ':={ gh.th i with d:=deafBehind (gh.th i).d #[⟨.mark m,false,true⟩] }) (h':=gh.h) (bc':=gh.bc) rfl rfl rfl i;exact⟨kdw (congrArg Prod.fst this),λ_=>congrArg Prod.snd this⟩
 rw [e1,e2]
 exact h _ _ (hle.trans he'.rk) he'.sees
theorem z45{f:FuncId}{aZ:Array Operand}{ats:Array TypeId}{fnn:Func}(ho:ops[j]?=some o)(hw:Region.wanted o (yielded ops a.tmps)=true)(hop:o.op=.call { callee:=.value (.func f),args:=aZ,argTypes:=ats })
  (hf : P.funcs[f]? = some fnn) (hname : (fnn.name == "runtime.NumGoroutine") = false) (hb : fnn.body.isNone = true) (hn : Extern.findNext fnn = none)
  (he:Extern.find fnn=some (Extern.Race.marked .acquire)) (hx:(aZ.map a.eval)[0]?=some (.pointer (some (muA p.Mu))))
  (hi:0<i) (hz:s.τ.z=0) (hr:s.τ.r=.owner) (hd:s.τ.d=0) (hh:s.τ.hd=false)
  (h:∀n' w' G cc,(sys p).Le n' s.n->zay (λx=>s.O x\/p.ro x) w w'->(∀x,G x->x<w'.heap.size/\¬p.ro x)->cc i=s.τ.c->p.Gd G cc w'->
    zbk (jdg p hst P i S) fn ops rest Q ⟨n',{ s.τ with hd:=true,cc:=cc },λx=>s.O x\/G x⟩ (a.put o.dst (.tuple #[])) w') :
  zbk (jdg p hst P i S) fn ops (j::rest) Q s a w:=by
 refine za6 (o:=o) (λhl b k cs hbf hbk gh w1 he'=>.inr ?_) (lv hi hz)
 obtain⟨t,hG⟩:=he'.gi
 have hth:gh.th i=s.τ:=he'.th
 obtain⟨hnone,hd1⟩:=yby (wk:=mayWake P (G (b.at a (.inRegion ops (j::rest)::k)) cs)) hG he'.lt (zco he' hl) hi (by rw [hth];exact hz) (by rw [hth];exact hr) oD (by rw [hth];exact hh)
 refine⟨.tuple #[],_,w1,_,stepG_markAt .acquire od ho hw hbk hop hf hname hb hn he hx,hd1,?_⟩
 have e1:(({ gh with th:=upd gh.th i { gh.th i with hd:=true,cc:=λj=>(gh.th j).c },h:=some i }:PG).th i)={ s.τ with hd:=true,cc:=λj=>(gh.th j).c }:=by show upd gh.th i _ i=_;rw [upd_same,hth]
 have e2:(sys p).own { gh with th:=upd gh.th i { gh.th i with hd:=true,cc:=λj=>(gh.th j).c },h:=some i } i=λx=>s.O x\/gh.bc x=.gua:=by funext x;apply propext;have ho:=congrFun (show(λx=>gh.bc x=.pri i\/(gh.bc x=.gua/\gh.h=some i))=s.O from he'.own) x;rw [<-ho,hnone];show(gh.bc x=.pri i\/(gh.bc x=.gua/\some i=some i))↔_;simp
 have hle:(sys p).Le ((sys p).now { gh with th:=upd gh.th i { gh.th i with hd:=true,cc:=λj=>(gh.th j).c },h:=some i } i) ((sys p).now gh i):=by have:=zhd (p:=p) (gh:=gh) (i:=i) (τ':={ gh.th i with hd:=true,cc:=λj=>(gh.th j).c }) (h':=some i) (bc':=gh.bc) rfl rfl rfl i;exact⟨kdw (congrArg Prod.fst this),λ_=>congrArg Prod.snd this⟩
 rw [e1,e2]
 refine h _ _ _ _ (hle.trans he'.rk) he'.sees (λx hx=>⟨hG.sz x (by rw [hx];simp),λhr=>?_⟩) (by rw [hth]) (hG.gd hnone)
 have:=(hG.ro x).2 hr
 rw [hx] at this;cases this
theorem z43{f:FuncId}{aZ:Array Operand}{ats:Array TypeId}{fnn:Func}(ho:ops[j]?=some o)(hw:Region.wanted o (yielded ops a.tmps)=true)(hop:o.op=.call { callee:=.value (.func f),args:=aZ,argTypes:=ats })
  (hf : P.funcs[f]? = some fnn) (hname : (fnn.name == "runtime.NumGoroutine") = false) (hb : fnn.body.isNone = true) (hn : Extern.findNext fnn = none)
  (he:Extern.find fnn=some (Extern.Race.marked .releaseMerge)) (hx:(aZ.map a.eval)[0]?=some (.pointer (some (muA p.Mu))))
  (hi:0<i) (hz:s.τ.z=0) (hd:s.τ.d=0) (hh:s.τ.hd=true) (c':Nat) (G':Nat->Prop) (hG':∀x,G' x->s.O x/\x<w.heap.size) (hgd:p.Gd G' (λj=>if j=i then c' else s.τ.cc j) w)
  (h:∀n' w',(sys p).Le n' s.n->zay (λx=>s.O x\/p.ro x) w w'->zbk (jdg p hst P i S) fn ops rest Q ⟨n',{ s.τ with hd:=false,c:=c' },λx=>s.O x/\¬G' x⟩ (a.put o.dst (.tuple #[])) w') :
  zbk (jdg p hst P i S) fn ops (j::rest) Q s a w:=by
 refine za6 (o:=o) (λhl b k cs hbf hbk gh w1 he'=>.inr ?_) (lv hi hz)
 obtain⟨t,hG⟩:=he'.gi
 have hth:gh.th i=s.τ:=he'.th
 have hO:∀x,(gh.bc x=.pri i\/(gh.bc x=.gua/\gh.h=some i))↔s.O x:=λx=>by rw [<-show(λx=>gh.bc x=.pri i\/(gh.bc x=.gua/\gh.h=some i))=s.O from he'.own]
 have hsome:gh.h=some i:=(hG.hd i).2 (by rw [hth];exact hh)
 let bc':Nat->Cls:=λx=>open Classical in if s.O x then (if G' x then .gua else .pri i) else gh.bc x
 have hbc1:∀x,s.O x->G' x->bc' x=.gua:=λx h1 h2=>by simp only [bc',h1,h2,if_true]
 have hbc2:∀x,s.O x->¬G' x->bc' x=.pri i:=λx h1 h2=>by simp only [bc',h1,h2,if_true,if_false]
 have hbc3:∀x,¬s.O x->bc' x=gh.bc x:=λx h1=>by simp only [bc',h1,if_false]
 have hgua:(λx=>bc' x=.gua)=G':=by
  funext x;apply propext;constructor
  .intro e;by_cases hx:s.O x
   .refine Classical.byContradiction λhg=>?_;rw [hbc2 x hx hg] at e;cases e
   .rw [hbc3 x hx] at e;exact absurd ((hO x).1 (.inr ⟨e,hsome⟩)) hx
  .intro hg;exact hbc1 x (hG' x hg).1 hg
 have hd1:=ybv (wk:=mayWake P (G (b.at a (.inRegion ops (j::rest)::k)) cs)) hG he'.lt (zco he' hl) hi (by rw [hth];exact hz) oD (by rw [hth];exact hh) c' bc' (λx=>by
  by_cases hx:s.O x
  .refine .inr ⟨((hO x).2 hx).imp id And.left,?_⟩;by_cases hg:G' x
   .exact .inr (hbc1 x hx hg)
   .exact .inl (hbc2 x hx hg)
  .exact .inl (hbc3 x hx)) (by
  rw [hgua];have e:(λj=>if j=i then c' else (gh.th j).c)=λj=>if j=i then c' else s.τ.cc j:=by
   funext q;by_cases hq:q=i
   .simp [hq]
   .simp only [hq,if_false];rw [hG.cc i q (by rw [hth];exact hh) hq,hth]
  rw [e];exact hst _ _ _ _ (λx hx=>he'.sees.heap x (hG' x hx).2 (.inl (hG' x hx).1)) hgd)
 refine⟨.tuple #[],_,w1,_,stepG_markAt .releaseMerge od ho hw hbk hop hf hname hb hn he hx,hd1,?_⟩
 have e1:(({ gh with th:=upd gh.th i { gh.th i with hd:=false,c:=c' },h:=none,bc:=bc' }:PG).th i)={ s.τ with hd:=false,c:=c' }:=by show upd gh.th i _ i=_;rw [upd_same,hth]
 have e2:(sys p).own { gh with th:=upd gh.th i { gh.th i with hd:=false,c:=c' },h:=none,bc:=bc' } i=λx=>s.O x/\¬G' x:=by
  funext x;apply propext;show(bc' x=.pri i\/(bc' x=.gua/\none=some i))↔_;constructor
  .rintro(e|⟨_,e⟩)
   .by_cases hx:s.O x
    .refine⟨hx,λhg=>?_⟩;rw [hbc1 x hx hg] at e;cases e
    .rw [hbc3 x hx] at e;exact absurd ((hO x).1 (.inl e)) hx
   .cases e
  .rintro⟨h1,h2⟩;exact .inl (hbc2 x h1 h2)
 have hle:(sys p).Le ((sys p).now { gh with th:=upd gh.th i { gh.th i with hd:=false,c:=c' },h:=none,bc:=bc' } i) ((sys p).now gh i):=by have:=zhd (p:=p) (gh:=gh) (i:=i) (τ':={ gh.th i with hd:=false,c:=c' }) (h':=none) (bc':=bc') rfl rfl rfl i;exact⟨kdw (congrArg Prod.fst this),λ_=>congrArg Prod.snd this⟩
 rw [e1,e2]
 exact h _ _ (hle.trans he'.rk) he'.sees
theorem zl8(hi:0<i)(hz:s.τ.z=0)(hh:s.τ.hd=false)(hd:0<s.τ.d)
  (h:∀(b:Frame) (k:List Item) (cs:List Frame),b.fn=fn->b.kind≠.early->∀w1 wd n,zay (λx=>s.O x\/p.ro x) w w1->zuy wd n->0<n s.τ.r->wd.word<2147483632->MuAt p.tM p.Mu w1 (wd.word:Int) (wd.T:Int)->
    (s.τ.r=.queued/\wd.T=0/\stepG P (i == 0) (G (b.at a (.inRegion ops (j::rest)::k)) cs) w1=.go { G (b.at a (.inRegion ops (j::rest)::k)) cs with status:=.blocked } w1 #[])\/
    ∃v w' es r' k' wd' x,stepG P (i == 0) (G (b.at a (.inRegion ops (j::rest)::k)) cs) w1=.go (G (b.at (a.put o.dst v) (.inRegion ops rest::k)) cs) w' es/\
     ((zc9 s.τ.r r' wd wd'/\k'+(if s.τ.r=.out then 1 else 0)=s.τ.k)\/(r'=s.τ.r/\k'=s.τ.k/\wd'=wd/\w'.heap=w1.heap))/\MuAt p.tM p.Mu w' (wd'.word:Int) (wd'.T:Int)/\(∀y,y≠p.Mu->w'.heap[y]?=w1.heap[y]?)/\w'.heap.size=w1.heap.size/\
     w'.tape=w1.tape/\w'.output=w1.output/\OsLater w1.os w'.os/\x.block=p.Mu/\znf x es/\(mayWake P (G (b.at a (.inRegion ops (j::rest)::k)) cs)=true\/(wd.T=0->wd'.T=0))/\
     ∀n',(sys p).Le n' s.n->n'.2=wd'.word->(n'.1=s.n.1->wd'.word=wd.word/\wd.word=s.n.2)->zay (λx=>s.O x\/p.ro x) w w'->zbk (jdg p hst P i S) fn ops rest Q ⟨n',{ s.τ with r:=r',k:=k' },s.O⟩ (a.put o.dst v) w')
  (hcap:8*(p.cap-p.b)+8<2147483632) :
  zbk (jdg p hst P i S) fn ops (j::rest) Q s a w:=by
 refine za6 (o:=o) (λhl b k cs hbf hbk gh w1 he'=>?_) (lv hi hz)
 obtain⟨t,hG⟩:=he'.gi
 have hth:gh.th i=s.τ:=he'.th
 have hnx:=hG.nx
 have hlt:i<gh.nx:=he'.lt
 have hic:i<p.cap:=oc
 have hpos:0<cnt p.cap (λj=>(gh.th j).r) s.τ.r:=by have:=zqd (N:=p.cap) (R:=λj=>(gh.th j).r) hic;simp only [hth] at this;exact this
 have hrole:∀q,q<p.b->(gh.th q).r=.out:=λq hq=>by
  by_cases hq0:q=0
  .subst hq0;exact hG.t0.1
  .exact hG.z1 q oc (by rw [hG.lv q (oc) hq];decide)
 have hword:gh.wd.word<2147483632:=by
  have h3:cnt p.cap (λj=>(gh.th j).r) .queued+cnt p.cap (λj=>(gh.th j).r) .woke+cnt p.cap (λj=>(gh.th j).r) .take<=p.cap-p.b:=by
   have:∀N,cnt N (λj=>(gh.th j).r) .queued+cnt N (λj=>(gh.th j).r) .woke+cnt N (λj=>(gh.th j).r) .take<=N-p.b:=by
    intro N;show(sumTo N λq=>if (gh.th q).r=.queued then 1 else 0)+(sumTo N λq=>if (gh.th q).r=.woke then 1 else 0)+(sumTo N λq=>if (gh.th q).r=.take then 1 else 0)<=N-p.b;induction N with
    | zero=>simp [sumTo]
    | succ N ih =>
      simp only [sumTo];by_cases hN:N<p.b
      .have e:=hrole N hN;simp only [e,reduceCtorEq,if_false];omega
      .have:(if (gh.th N).r=.queued then 1 else 0)+(if (gh.th N).r=.woke then 1 else 0)+(if (gh.th N).r=.take then 1 else 0)<=1:=by
         cases (gh.th N).r<;>simp
       omega
   exact this p.cap
  have h1:gh.wd.c<=p.cap-p.b:=by
   cases hS:gh.wd.S with
   | false=>have h1:=(hG.li.norm hS).2.2.2;omega
   | true=>have h1:=(hG.li.starv hS).2.2.2.2;omega
  unfold Wd.word;have b1:gh.wd.L.toNat<=1:=by cases gh.wd.L<;>simp
  have b2:gh.wd.W.toNat<=1:=by cases gh.wd.W<;>simp
  have b3:gh.wd.S.toNat<=1:=by cases gh.wd.S<;>simp
  omega
 rcases h b k cs hbf hbk w1 gh.wd _ he'.sees hG.li hpos hword hG.mu with ⟨h1,h2,h3⟩|⟨v,w',es,r',k',wd',x,h1,h2,h3,h4,h5,h6,h7,h8,h9,h10,h11,h12⟩
 .exact .inl ⟨.inl ⟨by rw [hth];exact h1,h2⟩,h3⟩
 refine .inr ?_
 have hsees:zay (λx=>s.O x\/p.ro x) w w':=by
  refine he'.sees.trans ⟨h6,h7,h8,oc,λy _ hy=>h4 y λe=>?_⟩;subst e;have hs:=(hG.shr _).2 (.inl rfl:p.Mu=p.Mu\/p.Mu=p.Wg);rcases hy with hy|hy
  .rw [<-show(λx=>gh.bc x=.pri i\/(gh.bc x=.gua/\gh.h=some i))=s.O from he'.own] at hy;rcases hy with e|⟨e,_⟩<;>(rw [hs] at e;cases e)
  .have:=(hG.ro _).2 hy;rw [hs] at this;cases this
 rcases h2 with ⟨hm,hk⟩|⟨rfl,rfl,rfl,hheap⟩
 .have hd1:=z2b (wk:=mayWake P (G (b.at a (.inRegion ops (j::rest)::k)) cs)) hst hG he'.lt (zco he' hl) hi (by rw [hth];exact hz) (by rw [hth];exact hh) oD (r':=r') (k':=k') (wd':=wd') (by rw [hth];exact hm) (by rw [hth];exact hk) h3 h4 h5 h6 h7 h8 h9 h10 h11;refine⟨v,_,w',es,h1,hd1,?_⟩
  have e1:(({ gh with th:=upd gh.th i { gh.th i with r:=r',k:=k' },wd:=wd' }:PG).th i)={ s.τ with r:=r',k:=k' }:=by show upd gh.th i _ i=_;rw [upd_same,hth]
  have e2:(sys p).own { gh with th:=upd gh.th i { gh.th i with r:=r',k:=k' },wd:=wd' } i=s.O:=he'.own;have hi0:i≠0:=oc
  have hle:(sys p).Le ((sys p).now { gh with th:=upd gh.th i { gh.th i with r:=r',k:=k' },wd:=wd' } i) ((sys p).now gh i):=hd1.keeps.rk i λh=>absurd h hi0;have ob1:∀g:PG,((sys p).now g i).2=g.wd.word:=λg=>if_neg hi0;rw [e1,e2];refine h12 _ (hle.trans he'.rk) (ob1 _) (λe=>?_) hsees;have l1:=hle.1;have l2:=he'.rk.1
  have q1:((sys p).now { gh with th:=upd gh.th i { gh.th i with r:=r',k:=k' },wd:=wd' } i).1=((sys p).now gh i).1:=oc
  have q2:((sys p).now gh i).1=s.n.1:=oc
  have z1:=hle.2 q1;have z2:=he'.rk.2 q2;exact⟨((ob1 { gh with th:=upd gh.th i { gh.th i with r:=r',k:=k' },wd:=wd' }).symm.trans z1).trans (ob1 gh),(ob1 gh).symm.trans z2⟩
 .have hd1:=zeg (wk:=mayWake P (G (b.at a (.inRegion ops (j::rest)::k)) cs)) hst hG he'.lt (by rw [hth];omega) (zco he' hl) hheap h6 h7 h8 (x:=x) (.inr ⟨.inl h9,.inl oD⟩) h10;refine⟨v,gh,w',es,h1,hd1,?_⟩;have e1:gh.th i={ s.τ with r:=s.τ.r,k:=s.τ.k }:=hth;have e2:(sys p).own gh i=s.O:=he'.own;rw [e1,e2];have ob1:((sys p).now gh i).2=gh.wd.word:=if_neg oc
  exact h12 _ he'.rk ob1 (λe=>⟨rfl,by rw [<-ob1];exact he'.rk.2 e⟩) hsees
theorem ycd(hl:zar i s)(h:∀(b:Frame) (k:List Item) (cs:List Frame),b.fn=fn->b.kind≠.early->∀w1,zay (λx=>s.O x\/p.ro x) w w1->
   ∃v w',stepG P (i == 0) (G (b.at a (.inRegion ops (j::rest)::k)) cs) w1=.go (G (b.at (a.put o.dst v) (.inRegion ops rest::k)) cs) w' #[]/\w'.heap=w1.heap/\w'.tape=w1.tape/\w'.output=w1.output/\OsLater w1.os w'.os/\
    zbk (jdg p hst P i S) fn ops rest Q s (a.put o.dst v) w') :
  zbk (jdg p hst P i S) fn ops (j::rest) Q s a w:=by
 intro b k cs hb hk hc
 refine(jdg p hst P i S).step rfl rfl λw1 hs=>?_
 obtain⟨v,w',h1,h2,h3,h4,h5,h6⟩:=h b k cs hb hk w1 hs
 refine⟨_,w',#[],s,h1,rfl,⟨hl,λ_=>⟨rfl,rfl,(zc2 (by rw [h2])).symm,.inr od,⟨by rw [h2];exact kac _,h3,h4,h5,λx _ _=>by rw [h2],od⟩⟩⟩,h6 b k cs hb hk hc⟩
end
end Go.Kp
namespace Go.Kp
open Go Go.Conc Go.ConcM
section
variable{p:Par}{hst:yp0 p}{P:Program}{i:Nat}{S:zkv p P i}
 {fn:FuncId} {Q:Exit->PSt->Go.Act->World->Prop} {s:PSt} {a:Go.Act} {w:World} {ops:Array Oper} {j:Nat} {rest:List Nat} {o:Oper}
theorem zio(v:Value)(ho:ops[j]?=some o)(hw:Region.wanted o (yielded ops a.tmps)=true)
  (hr:∀w₁,(execOp a.eval o).run P w₁=.ok (.value v) w₁) (he:∀w₁,(execOp a.eval o).events P w₁ #[]=#[]) (h:zbk (jdg p hst P i S) fn ops rest Q s (a.put o.dst v) w):zbk (jdg p hst P i S) fn ops (j::rest) Q s a w :=
 z0j v ho hw hr he h
theorem za4{D:Jdg}{fn:FuncId}{Q:Exit->D.St->Go.Act->World->Prop}{s:D.St}{a:Go.Act}{w:World}{ops:Array Oper}{i:Nat}{rest:List Nat}{o:Oper}{f:FuncId}{args:Array Operand}{ats:Array TypeId}{Post:D.St->Value->World->Prop}{vs:Array Value}
  (ho:ops[i]?=some o) (hw:Region.wanted o (yielded ops a.tmps)=true) (hop:o.op=.call { callee:=.value (.func f),args,argTypes:=ats }) (hv:args.map a.eval=vs)
  (hcall:zbv D f vs s w Post) (hnext:∀s' v w',Post s' v w'->zbk D fn ops rest Q s' (a.put o.dst v) w'):zbk D fn ops (i::rest) Q s a w :=
 z0l ho hw hop (by rw [hv];exact hcall) hnext
theorem zdf(hl:zar i s)(v:Value)(ho:ops[j]?=some o)(hw:Region.wanted o (yielded ops a.tmps)=true)
  (hrun:∀w1 st sm st' sm',MuAt p.tM p.Mu w1 st sm->ConcR.WgAt p.tW p.Wg w1 st' sm'->(execOp a.eval o).run P w1=.ok (.value v) w1/\listed P fn a o w1=#[])
  (h:∀n' w',(sys p).Le n' s.n->zay (λx=>s.O x\/p.ro x) w w'->zbk (jdg p hst P i S) fn ops rest Q ⟨n',s.τ,s.O⟩ (a.put o.dst v) w') :
  zbk (jdg p hst P i S) fn ops (j::rest) Q s a w:=by
 refine za6 (o:=o) (λhl b k cs hbf hbk gh w1 he=>.inr ?_) hl
 obtain⟨t,hG⟩:=he.gi
 have hth:gh.th i=s.τ:=he.th
 obtain⟨h1,h2⟩:=hrun w1 _ _ _ _ hG.mu hG.wg
 have hd1:=zeg (wk:=mayWake P (G (b.at a (.inRegion ops (j::rest)::k)) cs)) (es:=#[]) hst hG he.lt oR (zco he hl) rfl rfl rfl (.refl _) (x:=muA p.Mu) (.inl rfl) .none
 refine⟨v,gh,w1,#[],by rw [stepG_value ho hw hbk h1,hbf,h2],hd1,?_⟩
 have e1:gh.th i=s.τ:=hth
 have e2:(sys p).own gh i=s.O:=he.own
 rw [e1,e2]
 exact h _ _ he.rk he.sees
theorem zrv(hl:zar i s)(ho:ops[j]?=some o)(hw:Region.wanted o (yielded ops a.tmps)=true)
  (hrun:∀w1 st sm st' sm',MuAt p.tM p.Mu w1 st sm->ConcR.WgAt p.tW p.Wg w1 st' sm'->∃v,(execOp a.eval o).run P w1=.ok (.value v) w1/\listed P fn a o w1=#[])
  (h:∀v n' w',(sys p).Le n' s.n->zay (λx=>s.O x\/p.ro x) w w'->zbk (jdg p hst P i S) fn ops rest Q ⟨n',s.τ,s.O⟩ (a.put o.dst v) w') :
  zbk (jdg p hst P i S) fn ops (j::rest) Q s a w:=by
 refine za6 (o:=o) (λhl b k cs hbf hbk gh w1 he=>.inr ?_) hl
 obtain⟨t,hG⟩:=he.gi
 have hth:gh.th i=s.τ:=he.th
 obtain⟨v,h1,h2⟩:=hrun w1 _ _ _ _ hG.mu hG.wg
 have hd1:=zeg (wk:=mayWake P (G (b.at a (.inRegion ops (j::rest)::k)) cs)) (es:=#[]) hst hG he.lt oR (zco he hl) rfl rfl rfl (.refl _) (x:=muA p.Mu) (.inl rfl) .none
 refine⟨v,gh,w1,#[],by rw [stepG_value ho hw hbk h1,hbf,h2],hd1,?_⟩
 have e1:gh.th i=s.τ:=hth
 have e2:(sys p).own gh i=s.O:=he.own
 rw [e1,e2]
 exact h v _ _ he.rk he.sees
structure z69(p:Par)(i:Nat)(s:PSt):Prop where
 hi:0<i
 z:s.τ.z=0
 hh:s.τ.hd=false
 d:0<s.τ.d
 cap:8*(p.cap-p.b)+8<2147483632
theorem zg4{w:World}{v:Value}{y:Nat}{Mu off:Nat}(h:y≠Mu):(w.setCell ⟨Mu,off,none⟩ v).heap[y]?=w.heap[y]?:=(aside_setCell w ⟨Mu,off,none⟩ v).block y h
theorem zpn(A:z69 p i s){x y z:Operand}{f:FuncId}{ats:Array TypeId}{fnn:Func}(ho:ops[j]?=some o)(hw:Region.wanted o (yielded ops a.tmps)=true)(hop:o.op=.call { callee:=.value (.func f),args:=#[x,y,z],argTypes:=ats })
  (hf : P.funcs[f]? = some fnn) (hname : (fnn.name == "runtime.NumGoroutine") = false) (hb : fnn.body.isNone = true) (hn : Extern.findNext fnn = none) (he : Extern.find fnn = some (Extern.Atomic.casT (.int .i32)))
  (old new:Nat) (hx:a.eval x=.pointer (some (muA p.Mu))) (hy:a.eval y=.int .i32 (old:Int)) (hz:a.eval z=.int .i32 (new:Int))
  (hit:∀wd n,zuy wd n->0<n s.τ.r->wd.word=old->∃r' k' wd',zc9 s.τ.r r' wd wd'/\k'+(if s.τ.r=.out then 1 else 0)=s.τ.k/\wd'.word=new/\wd'.T=wd.T/\
    ∀n' w',(sys p).Le n' s.n->(old≠new->n'.1<s.n.1)->zay (λx=>s.O x\/p.ro x) w w'->zbk (jdg p hst P i S) fn ops rest Q ⟨n',{ s.τ with r:=r',k:=k' },s.O⟩ (a.put o.dst (.bool true)) w')
  (miss:∀n' w',(sys p).Le n' s.n->(s.n.2=old->n'.1<s.n.1)->zay (λx=>s.O x\/p.ro x) w w'->zbk (jdg p hst P i S) fn ops rest Q ⟨n',s.τ,s.O⟩ (a.put o.dst (.bool false)) w') :
  zbk (jdg p hst P i S) fn ops (j::rest) Q s a w:=by
 refine zl8 (o:=o) A.hi A.z A.hh A.d (λb k cs hbf hbk w1 wd n hs hL hn0 hlt hMu=>.inr ?_) A.cap
 have hc:=hMu.cellSt
 have hfz:w1.frozen? (muA p.Mu)=false:=hMu.thaw 0
 by_cases e:wd.word=old
 .obtain⟨r',k',wd',h1,h2,h3,h4,h5⟩:=hit wd n hL hn0 e;refine⟨.bool true,w1.setCell (muA p.Mu) (.int .i32 (new:Int)),_,r',k',wd',muA p.Mu,stepG_cas_hit ho hw hbk hop hf hname hb hn .i32 he hx hy hz (by rw [hc,e]) hfz,.inl ⟨h1,h2⟩,?_,λy hy=>zg4 hy,od,rfl,rfl,.refl _,rfl,.rw,.inr (by rw [h4];exact id),?_⟩
  .rw [h3,h4];exact hMu.setSt _
  .intro n' l1 _ l3 l4;exact h5 n' _ l1 (λhne=>Nat.lt_of_le_of_ne l1.1 λq=>hne (by have:=(l3 q).1;omega)) l4
 .refine⟨.bool false,w1,_,s.τ.r,s.τ.k,wd,muA p.Mu,stepG_cas_miss ho hw hbk hop hf hname hb hn .i32 he hx hy hz hc hfz oc,.inr ⟨rfl,rfl,rfl,rfl⟩,hMu,λ_ _=>rfl,rfl,rfl,rfl,.refl _,rfl,.r,.inr id,?_⟩;intro n' l1 _ l3 l4;exact miss n' _ l1 (λq=>Nat.lt_of_le_of_ne l1.1 λq'=>e (by rw [(l3 q').2,q])) l4
theorem z0k(A:z69 p i s)(ho:ops[j]?=some o)(hw:Region.wanted o (yielded ops a.tmps)=true)
  (hrun:∀w1 st sm,MuAt p.tM p.Mu w1 st sm->(execOp a.eval o).run P w1=.ok (.value (.int .i32 st)) w1/\listed P fn a o w1=#[])
  (h:∀wd n,zuy wd n->0<n s.τ.r->wd.word<2147483632->∃r',(r'=s.τ.r\/(s.τ.r≠.out/\zc9 s.τ.r r' wd wd))/\
    ∀n' w',(sys p).Le n' s.n->n'.2=wd.word->zay (λx=>s.O x\/p.ro x) w w'->zbk (jdg p hst P i S) fn ops rest Q ⟨n',{ s.τ with r:=r' },s.O⟩ (a.put o.dst (.int .i32 (wd.word:Int))) w') :
  zbk (jdg p hst P i S) fn ops (j::rest) Q s a w:=by
 refine zl8 (o:=o) A.hi A.z A.hh A.d (λb k cs hbf hbk w1 wd n hs hL hn0 hlt hMu=>.inr ?_) A.cap
 obtain⟨h1,h2⟩:=hrun w1 _ _ hMu
 obtain⟨r',hr,h3⟩:=h wd n hL hn0 hlt
 refine⟨_,w1,#[],r',s.τ.k,wd,muA p.Mu,by rw [stepG_value ho hw hbk h1,hbf,h2],?_,hMu,λ_ _=>rfl,rfl,rfl,rfl,.refl _,rfl,.none,.inr id,λn' l1 l2 _ l4=>h3 n' _ l1 l2 l4⟩
 rcases hr with rfl|⟨hr1,hr2⟩
 .exact .inr ⟨rfl,rfl,rfl,rfl⟩
 .exact .inl ⟨hr2,by rw [if_neg hr1];rfl⟩
theorem zx2(A:z69 p i s){x y:Operand}{f:FuncId}{ats:Array TypeId}{fnn:Func}(ho:ops[j]?=some o)(hw:Region.wanted o (yielded ops a.tmps)=true)(hop:o.op=.call { callee:=.value (.func f),args:=#[x,y],argTypes:=ats })
  (hf : P.funcs[f]? = some fnn) (hname : (fnn.name == "runtime.NumGoroutine") = false) (hb : fnn.body.isNone = true) (hn : Extern.findNext fnn = none) (he : Extern.find fnn = some (Extern.Atomic.update (Op.intArith .add) .i32 true))
  (δ:Int) (hx:a.eval x=.pointer (some (muA p.Mu))) (hy:a.eval y=.int .i32 δ)
  (h:∀wd n,zuy wd n->0<n s.τ.r->wd.word<2147483632->∃r' k' wd',zc9 s.τ.r r' wd wd'/\k'+(if s.τ.r=.out then 1 else 0)=s.τ.k/\(wd'.word:Int)=IntKind.i32.wrap ((wd.word:Int)+δ)/\wd'.T=wd.T/\
    ∀n' w',(sys p).Le n' s.n->n'.2=wd'.word->zay (λx=>s.O x\/p.ro x) w w'->zbk (jdg p hst P i S) fn ops rest Q ⟨n',{ s.τ with r:=r',k:=k' },s.O⟩ (a.put o.dst (.int .i32 (wd'.word:Int))) w') :
  zbk (jdg p hst P i S) fn ops (j::rest) Q s a w:=by
 refine zl8 (o:=o) A.hi A.z A.hh A.d (λb k cs hbf hbk w1 wd n hs hL hn0 hlt hMu=>.inr ?_) A.cap
 have hc:=hMu.cellSt
 have hfz:w1.frozen? (muA p.Mu)=false:=hMu.thaw 0
 obtain⟨r',k',wd',h1,h2,h3,h4,h5⟩:=h wd n hL hn0 hlt
 have hstep:=stepG_add_atomic (P:=P) (main:=i == 0) (b:=b) (kk:=k) (cs:=cs) (rest:=rest) (w:=w1) ho hw hbk hop hf hname hb hn .i32 he hx hy hc hfz
 rw [<-h3] at hstep
 refine⟨_,w1.setCell (muA p.Mu) (.int .i32 (wd'.word:Int)),_,r',k',wd',muA p.Mu,hstep,.inl ⟨h1,h2⟩,?_,λy hy=>zg4 hy,od,rfl,rfl,.refl _,rfl,.rw,.inr (by rw [h4];exact id),λn' l1 l2 _ l4=>h5 n' _ l1 l2 l4⟩
 rw [h4];exact hMu.setSt _
theorem z95(A:z69 p i s)(hr:s.τ.r=.queued){f:FuncId}{aZ:Array Operand}{ats:Array TypeId}{fnn:Func}(ho:ops[j]?=some o)(hw:Region.wanted o (yielded ops a.tmps)=true)(hop:o.op=.call { callee:=.value (.func f),args:=aZ,argTypes:=ats })
  (hf : P.funcs[f]? = some fnn) (hname : (fnn.name == "runtime.NumGoroutine") = false) (hb : fnn.body.isNone = true) (hn : Extern.findNext fnn = none) (he : Extern.find fnn = some Extern.Sync.semacquire)
  (hx:(aZ.map a.eval)[0]?=some (.pointer (some (msA p.Mu))))
  (h:∀n' w',(sys p).Le n' s.n->zay (λx=>s.O x\/p.ro x) w w'->zbk (jdg p hst P i S) fn ops rest Q ⟨n',{ s.τ with r:=.woke },s.O⟩ (a.put o.dst (.tuple #[])) w') :
  zbk (jdg p hst P i S) fn ops (j::rest) Q s a w:=by
 refine zl8 (o:=o) A.hi A.z A.hh A.d (λb k cs hbf hbk w1 wd n hs hL hn0 hlt hMu=>?_) A.cap
 have hc:=hMu.cellSm
 have hfz:w1.frozen? (msA p.Mu)=false:=hMu.thaw 1
 obtain⟨L,W,S,c,T⟩:=wd
 cases T with
 | zero=>exact .inl ⟨hr,rfl,stepG_semacquire_wait ho hw hop hf hname hb hn he hx (oa hc)⟩
 | succ T =>
   refine .inr ⟨.tuple #[],w1.setCell (msA p.Mu) (.int .u32 (T:Int)),_,.woke,s.τ.k,⟨L,W,S,c,T⟩,msA p.Mu,?_,.inl ⟨by rw [hr];exact .token L W S c T,by rw [hr];rfl⟩,?_,λy hy=>zg4 hy,od,rfl,rfl,.refl _,rfl,.sem,.inr (λe=>by cases e),λn' l1 _ _ l4=>h n' _ l1 l4⟩
   .have:=stepG_semacquire (P:=P) (main:=i == 0) (b:=b) (kk:=k) (cs:=cs) (rest:=rest) (w:=w1) ho hw hbk hop hf hname hb hn he hx hc oy hfz;rw [this];have e:(((T+1:Nat):Int)-1)=(T:Int):=oc
    simp only [e]
   .exact hMu.setSm _
theorem zl7(A:z69 p i s)(hr:s.τ.r=.post\/s.τ.r=.hand){f:FuncId}{aZ:Array Operand}{ats:Array TypeId}{fnn:Func}(ho:ops[j]?=some o)(hw:Region.wanted o (yielded ops a.tmps)=true)(hop:o.op=.call { callee:=.value (.func f),args:=aZ,argTypes:=ats })
  (hf : P.funcs[f]? = some fnn) (hname : (fnn.name == "runtime.NumGoroutine") = false) (hb : fnn.body.isNone = true) (hn : Extern.findNext fnn = none) (he : Extern.find fnn = some Extern.Sync.semrelease)
  (hx:(aZ.map a.eval)[0]?=some (.pointer (some (msA p.Mu))))
  (h:∀n' w',(sys p).Le n' s.n->zay (λx=>s.O x\/p.ro x) w w'->zbk (jdg p hst P i S) fn ops rest Q ⟨n',{ s.τ with r:=.out },s.O⟩ (a.put o.dst (.tuple #[])) w') :
  zbk (jdg p hst P i S) fn ops (j::rest) Q s a w:=by
 refine zl8 (o:=o) A.hi A.z A.hh A.d (λb k cs hbf hbk w1 wd n hs hL hn0 hlt hMu=>.inr ?_) A.cap
 have hc:=hMu.cellSm
 have hfz:w1.frozen? (msA p.Mu)=false:=hMu.thaw 1
 have hT:wd.T<=1:=by
  cases hS:wd.S with
  | false=>have:=(hL.norm hS).1;have h2:wd.W.toNat<=1:=by cases wd.W<;>simp
           omega
  | true=>have:=(hL.starv hS).2.2.2.1;omega
 obtain⟨L,W,S,c,T⟩:=wd
 simp only at hT hc
 refine⟨.tuple #[],w1.setCell (msA p.Mu) (.int .u32 ((T+1:Nat):Int)),_,.out,s.τ.k,⟨L,W,S,c,T+1⟩,msA p.Mu,?_,.inl ⟨?_,?_⟩,hMu.setSm _,λy hy=>zg4 hy,od,rfl,rfl,.refl _,rfl,.sem,.inl (zke ho hop hf hb),λn' l1 _ _ l4=>h n' _ l1 l4⟩
 .have:=stepG_semrelease (P:=P) (main:=i == 0) (b:=b) (kk:=k) (cs:=cs) (rest:=rest) (w:=w1) ho hw hbk hop hf hname hb hn he hx hc hfz;rw [this];have e:IntKind.u32.wrap ((T:Int)+1)=((T+1:Nat):Int):=by
    have:T=0\/T=1:=oc
    rcases this with rfl|rfl<;>decide
  simp only [e]
 .rcases hr with hr|hr<;>rw [hr]
  .exact .post L W S c T
  .exact .hand L W S c T
 .rcases hr with hr|hr<;>rw [hr]<;>rfl
end
end Go.Kp
namespace Go.Kp
open Go Go.Conc
def tab(n:Nat)(F:Nat->Value):Array Value:=Array.ofFn (n:=n) λi=>F i
def upr(F:Nat->Value)(d:Nat)(v:Value)(k:Nat):Value:=if k=d then v else F k
@[simp] theorem zvf (n:Nat) (F:Nat->Value):(tab n F).size=n:=by simp [tab]
@[simp] theorem zpd? (n:Nat) (F:Nat->Value) (k:Nat):(tab n F)[k]?=if k<n then some (F k) else none:=by
  unfold tab;by_cases h:k<n
  .simp [h]
  .simp [h]
@[simp] theorem zpd (n:Nat) (F:Nat->Value) (k:Nat) (h:k<(tab n F).size):(tab n F)[k]=F k:=by simp [tab]
theorem zci(n:Nat)(F:Nat->Value)(k:Nat)(x:Value)(h:k<n):(tab n F).getD k x=F k:=by simp [h]
theorem zti(n:Nat)(F:Nat->Value)(d:Nat)(v:Value):(tab n F).setIfInBounds d v=tab n (upr F d v):=by
 apply kce;intro k;rw [kcl];simp only [zpd?,zvf,upr];by_cases h:d=k
 .subst h;simp
 .simp [h,Ne.symm h]
@[simp] theorem upr_app (F:Nat->Value) (d:Nat) (v:Value) (k:Nat):upr F d v k=if k=d then v else F k:=rfl
theorem z7k{T:Array Value}{n:Nat}(h:T.size=n):T=tab n λk=>T.getD k undef:=by
 apply kce;intro k;simp only [zpd?];split
 .rename_i hk;rw [ka2 oc];simp [ka2 (show k<T.size by omega)]
 .rename_i hk;rw [Array.getElem?_eq_none oc]
theorem zaz {D : Jdg} {f : FuncId} {fn : Func} {c : Code} {args : Array Value} {s : D.St} {w : World} {Post : D.St -> Value -> World -> Prop} (hf : D.P.funcs[f]? = some fn) (hname : (fn.name == "runtime.NumGoroutine") = false) (hb : fn.body = some c)
  (n:Nat) (hn:fn.ntmps=n) (hle:args.size<=n) (h:∀F,(∀k v,args[k]?=some v->F k=v)->WpJ D f c (zi7 D.P fn Post) s { tmps:=tab n F,defers:=[] } w):zbv D f args s w Post:=by
 refine z2m hf hname hb ?_
 have hs:(args++Array.replicate (fn.ntmps-args.size) undef).size=n:=by simp [hn];omega
 rw [z7k hs]
 refine h _ λk v hk=>?_
 have hlt:=(kad.1 hk).1
 rw [kau,kb3 hlt,hk]
 rfl
theorem znz{P:Program}{fn:FuncId}(hq:(P.funcs[fn]?).any (·.norace)=true)(x:Addr)(wr:Bool):seen P fn #[⟨.cell x,wr,false⟩]=#[]:=by rw [seen_def];simp [seenStep,hq]
structure zei(P:Program)(f:FuncId)(fn:Func)(e:Array Value->Sem Value):Prop where
 f:P.funcs[f]?=some fn
 name : (fn.name == "runtime.NumGoroutine") = false
 body:fn.body.isNone=true
 next:Extern.findNext fn=none
 find:Extern.find fn=some e
end Go.Kp
namespace Go.Kp
open Go Go.Conc Go.ConcM
open Go.ConcN (sumTo upd sumTo_upd upd_ne upd_same)
theorem zzy{cap:Nat}{th:Nat->Thr}{i:Nat}{τ':Thr}{wd:Wd}(hi:i<cap)(hr:τ'.r=(th i).r)(hk:τ'.k=(th i).k):rkT cap (upd th i τ') wd+wz (th i).z=rkT cap th wd+wz τ'.z:=by unfold rkT;rw [zav (λτ=>τ.r) hr,zav (λτ=>τ.k) hk];have:=zdd cap (f:=λj=>wz (th j).z) (g:=λj=>wz (upd th i τ' j).z) hi (λj _ hj=>by simp only [upd_ne _ _ hj]);simp only [upd_same] at this;omega
theorem zgy{p:Par}(hst:yp0 p){i:Nat}{gh:PG}{w w':World}{es:Array Event}{wk:Bool}{t0:Trace}(h0:GI p gh w t0)(hi:i<gh.nx)(ho:(gh.th i).z≠3)(h3:(gh.th 0).s<3)
  (τ':Thr) (v':Nat) (ww':Bool) (wT':Nat) (hr:τ'.r=(gh.th i).r) (hk:τ'.k=(gh.th i).k) (hhd:τ'.hd=(gh.th i).hd) (hc:τ'.c=(gh.th i).c) (hcc:τ'.cc=(gh.th i).cc) (hd':τ'.d=(gh.th i).d)
  (hz1:i≠0->(1<=τ'.z↔1<=(gh.th i).z)) (hz3:0<i->τ'.s=0) (hz4:τ'.z<5) (ht0:i=0->τ'.z=0/\τ'.s<3)
  (hwg:ConcR.WgAt p.tW p.Wg w' ((v'*4294967296+ww'.toNat:Nat):Int) (wT':Int)) (hsame:∀x,x≠p.Wg->w'.heap[x]?=w.heap[x]?) (hs:w'.heap.size=w.heap.size) (htape:w'.tape=w.tape) (hout:w'.output=w.output) (hos:w'.os=w.os)
  (hwi:zyn p.b { gh with th:=upd gh.th i τ',v:=v',ww:=ww',wT:=wT' }) {x:Addr} (hx:x.block=p.Wg) (hes:znf x es) (hd:0<(gh.th i).d\/i=0)
  (hrk:wz τ'.z<=wz (gh.th i).z) (hrk0:i≠0->wz τ'.z<wz (gh.th i).z\/(v'=gh.v/\ww'=gh.ww)) (hwk:wk=true\/(gh.wT=0->wT'=0)) :
  zuz p i gh w es { gh with th:=upd gh.th i τ',v:=v',ww:=ww',wT:=wT' } w' wk:=by
 have hsx:gh.bc x.block=.shr:=by rw [hx];exact(h0.shr _).2 (.inr rfl)
 obtain⟨k1,k2,k3,k4⟩:=hes.ok (a:=muA p.Mu) (b:=⟨p.Wg,0,none⟩) (cl:=zid gh.bc) (ho:=gh.h) (g:=i) (d:=(gh.th i).d) (B:=w.heap.size) hsx hd (h0.sz _ (by rw [hsx];simp))
 have hpt:=zzy (wd:=gh.wd) (th:=gh.th) (τ':=τ') (i:=i) (cap:=p.cap) (by have:=h0.nx;omega) hr hk
 refine zhm hst h0 hi ho h3 τ' gh.wd v' ww' wT' hhd hc hcc hz1 (λh1 h2=>by rw [hr];exact h0.z1 i h1 ((hz1 oc).1 h2)) hz3 hz4 (λh=>by subst h;exact⟨hr.trans h0.t0.1,(ht0 rfl).1,(ht0 rfl).2⟩) (λ_=>hk)
  (λh=>by rw [hr];rw [hhd] at h;exact(h0.ow i h).1) ?_ hwg (λy _ hy=>hsame y hy) hs htape hout (by rw [hos];exact .refl _) ?_ hwi k1 k2 k3 (by rw [k4,hd']) (by simp only [if_true];omega) (λh0i e=>?_) (hwk.imp id λh=>⟨id,h⟩)
 .have:=h0.mu;unfold MuAt at this |-;rw [hsame p.Mu h0.ne];exact this
 .rw [zav (λτ=>τ.r) hr];exact h0.li
 .rcases hrk0 h0i with h|h
  .omega
  .exact h
theorem zbp{b nx:Nat}{th:Nat->Thr}{i:Nat}{τ':Thr}(f:Nat->Bool)(hi:i<nx)(hb:b<=i):zcv b nx (upd th i τ') f+(if f (th i).z=true then 1 else 0)=zcv b nx th f+(if f τ'.z=true then 1 else 0):=by
 unfold zcv;have:=zdd nx (f:=λj=>if b<=j/\f (th j).z=true then 1 else 0) (g:=λj=>if b<=j/\f (upd th i τ' j).z=true then 1 else 0) hi (λj _ hj=>by simp only [upd_ne _ _ hj]);simp only [upd_same,hb,true_and] at this;exact this
theorem zli{b nx:Nat}{th:Nat->Thr}{τ':Thr}(f:Nat->Bool)(hb:0<b):zcv b nx (upd th 0 τ') f=zcv b nx th f:=by
 unfold zcv;refine zft nx λj _=>?_;by_cases hj:j=0
 .subst hj;have:¬b<=0:=oc
  simp [this]
 .rw [upd_ne _ _ hj]
section
variable{p:Par}{hst:yp0 p}{P:Program}{i:Nat}{S:zkv p P i}
 {fn:FuncId} {Q:Exit->PSt->Go.Act->World->Prop} {s:PSt} {a:Go.Act} {w:World} {ops:Array Oper} {j:Nat} {rest:List Nat} {o:Oper}
theorem zhh{gh:PG}{w1 w':World}{t:Trace}(hG:GI p gh w1 t)(he:(sys p).Env i s.n s.τ s.O w gh w1)(hsame:∀x,x≠p.Mu->x≠p.Wg->w'.heap[x]?=w1.heap[x]?)(hs:w'.heap.size=w1.heap.size)(htape:w'.tape=w1.tape)(hout:w'.output=w1.output)(hos:OsLater w1.os w'.os) :
  zay (λx=>s.O x\/p.ro x) w w':=by
 refine he.sees.trans ⟨htape,hout,hos,oc,λy _ hy=>?_⟩
 have hno:gh.bc y≠.shr:=by
  rcases hy with hy|hy
  .rw [<-show(λx=>gh.bc x=.pri i\/(gh.bc x=.gua/\gh.h=some i))=s.O from he.own] at hy;rcases hy with e|⟨e,_⟩<;>(rw [e];simp)
  .rw [(hG.ro _).2 hy];simp
 exact hsame y (λe=>hno ((hG.shr y).2 (.inl e))) (λe=>hno ((hG.shr y).2 (.inr e)))
theorem zbl{w:World}{v:Value}{y:Nat}{Wg off:Nat}(h:y≠Wg):(w.setCell ⟨Wg,off,none⟩ v).heap[y]?=w.heap[y]?:=(aside_setCell w ⟨Wg,off,none⟩ v).block y h
theorem ze4{ty:TypeId}{Wg:Nat}{w:World}{st sm:Int}(h:ConcR.WgAt ty Wg w st sm):w.cell? ⟨Wg,0,none⟩=some (.int .u64 st)/\w.cell? ⟨Wg,1,none⟩=some (.int .u32 sm)/\∀k,w.frozen? ⟨Wg,k,none⟩=false:=by unfold ConcR.WgAt ConcR.wgBlock at h;refine⟨by simp [World.cell?,h],by simp [World.cell?,h],λk=>by simp [World.frozen?,h]⟩
theorem zu6{ty:TypeId}{Wg:Nat}{w:World}{st sm:Int}(h:ConcR.WgAt ty Wg w st sm)(v:Int):ConcR.WgAt ty Wg (w.setCell ⟨Wg,0,none⟩ (.int .u64 v)) v sm:=by unfold ConcR.WgAt ConcR.wgBlock at h |-;rw [setCell_eq_setRow w Wg 0 _ ty (0,0) _ h,setRow_heap w Wg _ _ ty _ h];simp
theorem z7b{ty:TypeId}{Wg:Nat}{w:World}{st sm:Int}(h:ConcR.WgAt ty Wg w st sm)(v:Int):ConcR.WgAt ty Wg (w.setCell ⟨Wg,1,none⟩ (.int .u32 v)) st v:=by unfold ConcR.WgAt ConcR.wgBlock at h |-;rw [setCell_eq_setRow w Wg 1 _ ty (0,0) _ h,setRow_heap w Wg _ _ ty _ h];simp
theorem v_le{gh:PG}{w1:World}{t:Trace}(hG:GI p gh w1 t):zcv p.b gh.nx gh.th (λz=>decide (z<2))<=p.cap-p.b:=by
 have h1:∀N,(sumTo N λj=>if p.b<=j/\(decide ((gh.th j).z<2))=true then 1 else 0)<=N-p.b:=by
  intro N;induction N with
  | zero=>simp [sumTo]
  | succ N ih =>
    simp only [sumTo];by_cases hN:p.b<=N
    .have:(if p.b<=N/\(decide ((gh.th N).z<2))=true then 1 else 0)<=1:=by split<;>omega
     omega
    .simp only [hN,false_and,if_false];omega
 have h2:zcv p.b gh.nx gh.th (λz=>decide (z<2))<=gh.nx-p.b:=h1 gh.nx;have:=hG.nx;omega
theorem z44{f:FuncId}{aZ:Array Operand}{ats:Array TypeId}{fnn:Func}(ho:ops[j]?=some o)(hw:Region.wanted o (yielded ops a.tmps)=true)(hop:o.op=.call { callee:=.value (.func f),args:=aZ,argTypes:=ats })
  (hf : P.funcs[f]? = some fnn) (hname : (fnn.name == "runtime.NumGoroutine") = false) (hb : fnn.body.isNone = true) (hn : Extern.findNext fnn = none)
  (he:Extern.find fnn=some (Extern.Race.marked .releaseMerge)) (hx:(aZ.map a.eval)[0]?=some (.pointer (some ⟨p.Wg,0,none⟩)))
  (hi:0<i) (hz:s.τ.z=0) (hr:s.τ.r=.out) (hd:s.τ.d=0) (hF:s.τ.c=p.F i)
  (h:∀n' w',(sys p).Le n' s.n->zay (λx=>s.O x\/p.ro x) w w'->zbk (jdg p hst P i S) fn ops rest Q ⟨n',{ s.τ with z:=1 },s.O⟩ (a.put o.dst (.tuple #[])) w') :
  zbk (jdg p hst P i S) fn ops (j::rest) Q s a w:=by
 refine za6 (o:=o) (λhl b k cs hbf hbk gh w1 he'=>.inr ?_) (lv hi hz)
 obtain⟨t,hG⟩:=he'.gi
 have hth:gh.th i=s.τ:=he'.th
 have hd1:=ybx (wk:=mayWake P (G (b.at a (.inRegion ops (j::rest)::k)) cs)) hG he'.lt (zco he' hl) hi (by rw [hth];exact hz) (by rw [hth];exact hr) oD (λ_=>by rw [hth];exact hF)
 refine⟨.tuple #[],_,w1,_,stepG_markAt .releaseMerge od ho hw hbk hop hf hname hb hn he hx,hd1,?_⟩
 have e1:(({ gh with th:=upd gh.th i { gh.th i with z:=1 } }:PG).th i)={ s.τ with z:=1 }:=by show upd gh.th i _ i=_;rw [upd_same,hth]
 have hle:(sys p).Le ((sys p).now { gh with th:=upd gh.th i { gh.th i with z:=1 } } i) ((sys p).now gh i):=by have:=zhd (p:=p) (gh:=gh) (i:=i) (τ':={ gh.th i with z:=1 }) (h':=gh.h) (bc':=gh.bc) rfl rfl (by rw [hth,hz];rfl) i;exact⟨kdw (congrArg Prod.fst this),λ_=>congrArg Prod.snd this⟩
 have e2:(sys p).own { gh with th:=upd gh.th i { gh.th i with z:=1 } } i=s.O:=he'.own
 rw [e1,e2]
 exact h _ _ (hle.trans he'.rk) he'.sees
theorem zty{x y:Operand}{f:FuncId}{ats:Array TypeId}{fnn:Func}(ho:ops[j]?=some o)(hw:Region.wanted o (yielded ops a.tmps)=true)(hop:o.op=.call { callee:=.value (.func f),args:=#[x,y],argTypes:=ats })
  (hf : P.funcs[f]? = some fnn) (hname : (fnn.name == "runtime.NumGoroutine") = false) (hb : fnn.body.isNone = true) (hn : Extern.findNext fnn = none) (he : Extern.find fnn = some (Extern.Atomic.update (Op.intArith .add) .u64 true))
  (hx:a.eval x=.pointer (some ⟨p.Wg,0,none⟩)) (hy:a.eval y=.int .u64 18446744069414584320)
  (hi:0<i) (hz:s.τ.z=1) (hd:0<s.τ.d) (hcap:8*(p.cap-p.b)+8<2147483632)
  (h:∀n' w' (v':Nat) (ww':Bool),zay (λx=>s.O x\/p.ro x) w w'->v'<=(p.cap-p.b)->
    (v'=0/\ww'=true->zbk (jdg p hst P i S) fn ops rest Q ⟨n',{ s.τ with z:=2 },s.O⟩ (a.put o.dst (.int .u64 ((v'*4294967296+ww'.toNat:Nat):Int))) w')/\
    (¬(v'=0/\ww'=true)->zbk (jdg p hst P i S) fn ops rest Q ⟨n',{ s.τ with z:=3 },s.O⟩ (a.put o.dst (.int .u64 ((v'*4294967296+ww'.toNat:Nat):Int))) w')) :
  zbk (jdg p hst P i S) fn ops (j::rest) Q s a w:=by
 refine za6 (o:=o) (λhl b k cs hbf hbk gh w1 he'=>.inr ?_) ⟨by rw [hz];decide,λh=>oc⟩
 obtain⟨t,hG⟩:=he'.gi
 have hth:gh.th i=s.τ:=he'.th
 have hzi:(gh.th i).z=1:=by rw [hth];exact hz
 have hlt:i<gh.nx:=he'.lt
 have hbi:p.b<=i:=by
  rcases hG.st hlt oc with e|e
  .omega
  .exact e.1
 have h3:=zco he' hl
 obtain⟨c1,c2,c3⟩:=ze4 hG.wg
 have kw:=hG.wi
 have hvle:=v_le hG
 have hv1:1<=zcv p.b gh.nx gh.th (λz=>decide (z<2)):=by have:=zde gh.nx (λj=>if p.b<=j/\(decide ((gh.th j).z<2))=true then 1 else 0) i hlt;simp [hbi,hzi] at this;simpa [zcv] using this
 have hv:=kw.v
 have hw1:gh.ww.toNat<=1:=by cases gh.ww<;>simp
 have hs0:(gh.th 0).s<=1:=by refine Nat.le_of_not_lt λh2=>?_;have:=kw.s2 h2;omega
 have hvb:gh.v<=(p.cap-p.b)+(gh.th 0).a:=oc
 have ha1:=kw.a1
 obtain⟨v',hv'⟩:∃v',gh.v=v'+1:=⟨gh.v-1,oc⟩
 have hwrap:IntKind.u64.wrap (((gh.v*4294967296+gh.ww.toNat:Nat):Int)+18446744069414584320)=((v'*4294967296+gh.ww.toNat:Nat):Int):=by rw [IntKind.wrap_u64,hv'];omega
 have hni:∀j',j'≠i->∀τ',upd gh.th i τ' j'=gh.th j':=λj' hj τ'=>upd_ne _ _ hj
 have h0i:∀τ',upd gh.th i τ' 0=gh.th 0:=λτ'=>upd_ne _ _ oc
 have q1:=zbp (b:=p.b) (th:=gh.th) (τ':={ gh.th i with z:=2 }) (λz=>decide (z<2)) hlt hbi
 have q2:=zbp (b:=p.b) (th:=gh.th) (τ':={ gh.th i with z:=2 }) (λz=>z == 2) hlt hbi
 have q4:=zbp (b:=p.b) (th:=gh.th) (τ':={ gh.th i with z:=2 }) (λz=>z == 4) hlt hbi
 have r1:=zbp (b:=p.b) (th:=gh.th) (τ':={ gh.th i with z:=3 }) (λz=>decide (z<2)) hlt hbi
 have r2:=zbp (b:=p.b) (th:=gh.th) (τ':={ gh.th i with z:=3 }) (λz=>z == 2) hlt hbi
 have r4:=zbp (b:=p.b) (th:=gh.th) (τ':={ gh.th i with z:=3 }) (λz=>z == 4) hlt hbi
 simp only [hzi] at q1 q2 q4 r1 r2 r4
 simp at q1 q2 q4 r1 r2 r4
 have step:=stepG_add_atomic (P:=P) (main:=i == 0) (b:=b) (kk:=k) (cs:=cs) (rest:=rest) (w:=w1) ho hw hbk hop hf hname hb hn .u64 he hx hy c1 (c3 0)
 rw [hwrap] at step
 have hsee:=zhh (w':=w1.setCell ⟨p.Wg,0,none⟩ (.int .u64 ((v'*4294967296+gh.ww.toNat:Nat):Int))) hG he' (λy _ hy=>zbl hy) od rfl rfl (.refl _)
 have hwgn:=zu6 hG.wg ((v'*4294967296+gh.ww.toNat:Nat):Int)
 have own:∀τ',(sys p).own { gh with th:=upd gh.th i τ',v:=v',ww:=gh.ww,wT:=gh.wT } i=s.O:=λ_=>he'.own
 have the:∀τ',(({ gh with th:=upd gh.th i τ',v:=v',ww:=gh.ww,wT:=gh.wT }:PG).th i)=τ':=λτ'=>upd_same _ _ _
 by_cases hlast:v'=0/\gh.ww=true
 .have hwi:zyn p.b { gh with th:=upd gh.th i { gh.th i with z:=2 },v:=v',ww:=gh.ww,wT:=gh.wT }:=by
     refine⟨?_,λe=>?_,λe=>?_,λe=>?_,by simp only [h0i];exact kw.a1⟩
     .simp only [h0i];omega
     .simp only [h0i] at e;have:=kw.s0 e;rw [hlast.2] at this;exact absurd this.1 od
     .simp only [h0i] at e |-;obtain⟨k1,k2⟩:=kw.s1 e;rcases k2 with ⟨m1,m2,m3,m4,m5⟩|⟨m1,_⟩
      .refine⟨k1,.inr ⟨hlast.1,.inl ⟨m2,m3,?_,?_⟩⟩⟩
       .have:zcv p.b gh.nx gh.th (λz=>z == 2)=0:=m4;omega
       .have:zcv p.b gh.nx gh.th (λz=>z == 4)=0:=m5;omega
      .omega
     .simp only [h0i] at e;omega
  have hd1:=zgy (wk:=mayWake P (G (b.at a (.inRegion ops (j::rest)::k)) cs)) hst hG he'.lt oc h3 { gh.th i with z:=2 } v' gh.ww gh.wT rfl rfl rfl rfl rfl rfl (λ_=>by simp only;omega) (λh=>hG.zs i h) od (λh=>oc)
   hwgn (λy hy=>zbl hy) od rfl rfl rfl hwi (x:=⟨p.Wg,0,none⟩) rfl .rw (.inl oD) (by rw [hzi];exact(by decide:wz 2<=wz 1)) (λ_=>.inl (by rw [hzi];exact(by decide:wz 2<wz 1))) (.inr id)
  refine⟨_,_,_,_,step,hd1,?_⟩;rw [the,own,hth];exact(h _ _ v' gh.ww hsee oc).1 hlast
 .have hwi:zyn p.b { gh with th:=upd gh.th i { gh.th i with z:=3 },v:=v',ww:=gh.ww,wT:=gh.wT }:=by
     refine⟨?_,λe=>?_,λe=>?_,λe=>?_,by simp only [h0i];exact kw.a1⟩
     .simp only [h0i];omega
     .simp only [h0i] at e;obtain⟨m1,m2,m3,m4⟩:=kw.s0 e;refine⟨m1,m2,?_,?_⟩
      .have:zcv p.b gh.nx gh.th (λz=>z == 2)=0:=m3;simp only;omega
      .have:zcv p.b gh.nx gh.th (λz=>z == 4)=0:=m4;simp only;omega
     .simp only [h0i] at e |-;obtain⟨k1,k2⟩:=kw.s1 e;rcases k2 with ⟨m1,m2,m3,m4,m5⟩|⟨m1,_⟩
      .refine⟨k1,.inl ⟨?_,m2,m3,?_,?_⟩⟩
       .refine Nat.pos_of_ne_zero λh0=>hlast ⟨h0,m2⟩
       .have:zcv p.b gh.nx gh.th (λz=>z == 2)=0:=m4;omega
       .have:zcv p.b gh.nx gh.th (λz=>z == 4)=0:=m5;omega
      .omega
     .simp only [h0i] at e;omega
  have hd1:=zgy (wk:=mayWake P (G (b.at a (.inRegion ops (j::rest)::k)) cs)) hst hG he'.lt oc h3 { gh.th i with z:=3 } v' gh.ww gh.wT rfl rfl rfl rfl rfl rfl (λ_=>by simp only;omega) (λh=>hG.zs i h) od (λh=>oc)
   hwgn (λy hy=>zbl hy) od rfl rfl rfl hwi (x:=⟨p.Wg,0,none⟩) rfl .rw (.inl oD) (by rw [hzi];exact(by decide:wz 3<=wz 1)) (λ_=>.inl (by rw [hzi];exact(by decide:wz 3<wz 1))) (.inr id)
  refine⟨_,_,_,_,step,hd1,?_⟩;rw [the,own,hth];exact(h _ _ v' gh.ww hsee oc).2 hlast
end
theorem zm4{O ro:Nat->Prop}{B:Nat}{ad:Addr}{wr:Bool}(h:O ad.block\/(ro ad.block/\wr=false))(hB:ad.block<B):EvO O ro B ⟨.cell ad,wr,false⟩:=by
 refine⟨λx hx=>?_,λa=>by simp [MemAct.ofEvent],od,od,hB⟩;have:x=⟨.cell ad,wr,.plain⟩:=by simpa [MemAct.ofEvent,MemAct.touch?] using hx.symm
 subst this;exact⟨ad.block,rfl,h⟩
section
variable{p:Par}{hst:yp0 p}{P:Program}{i:Nat}{S:zkv p P i}
 {fn:FuncId} {Q:Exit->PSt->Go.Act->World->Prop} {s:PSt} {a:Go.Act} {w:World} {ops:Array Oper} {j:Nat} {rest:List Nat} {o:Oper}
theorem zay.cell{O:Nat->Prop}{w w1:World}(h:zay O w w1){ad:Addr}{v:Value}(ho:O ad.block)(hc:w.cell? ad=some v):w1.cell? ad=some v:=by rw [World.cell?_of_block (h.heap ad.block (World.block_lt_of_cell? w ad hc) ho)];exact hc
theorem zgq(v:Value)(ad:Addr)(hl:zar i s)(hz:s.τ.z=0)(hin:s.O ad.block\/p.ro ad.block)(hc:w.cell? ad=some v)(ho:ops[j]?=some o)(hw:Region.wanted o (yielded ops a.tmps)=true)
  (hrun:∀w1:World,w1.cell? ad=some v->(execOp a.eval o).run P w1=.ok (.value v) w1/\(execOp a.eval o).events P w1 #[]=#[⟨.cell ad,false,false⟩])
  (h:zbk (jdg p hst P i S) fn ops rest Q s (a.put o.dst v) w):zbk (jdg p hst P i S) fn ops (j::rest) Q s a w:=by
 refine z0i (D:=jdg p hst P i S) v ho hw (λw1 hs=>?_) h
 have hs':zay (λx=>s.O x\/p.ro x) w w1:=hs
 have hc1:=hs'.cell (O:=λx=>s.O x\/p.ro x) hin hc
 obtain⟨h1,h2⟩:=hrun w1 hc1
 refine⟨h1,hl,λ_=>⟨rfl,rfl,(zc2 rfl).symm,.inl hz,kac _,rfl,rfl,.refl _,λ_ _ _=>rfl,λe he=>?_⟩⟩
 have he':=seen_sub he
 have he2:e∈(execOp a.eval o).events P w1 #[]:=he'
 rw [h2] at he2
 simp only [kdy,kat,kb2,or_false] at he2
 subst he2
 exact zm4 (by rw [zc2 rfl];exact hin.imp id λh=>⟨h,rfl⟩) (World.block_lt_of_cell? w1 ad hc1)
end
end Go.Kp
namespace Go.Kp
open Go Go.Conc Go.ConcM
section
variable{D:Jdg}{fn:FuncId}{Q:Exit->D.St->Go.Act->World->Prop}{s:D.St}{a:Go.Act}{w:World}{ops:Array Oper}{md:Region.Mode}{St:World->Prop}
theorem zt1{i:Nat}{rest:List Nat}(h:OpC D.P (D.See s) (λw w' es=>D.Ok s w w' es s) fn ops i (λa' w'=>zbk D fn ops rest Q s a' w') a w):zbk D fn ops (i::rest) Q s a w:=by
 unfold OpC at h;split at h
 .exact h.elim
 .rename_i o ho;split at h
  .rename_i hw;refine ze8 ho hw λw1 h1=>uponK_mono (λa' w' h=>⟨s,h⟩) (h w1 h1)
  .rename_i hw;exact ziq ho (oa hw) h
theorem zus:∀(fuel t:Nat) (listed:Array Bool) (a:Go.Act) (w:World),AnyCH D.P (D.See s) (λw w' es=>D.Ok s w w' es s) fn md ops (λe a w=>Q e s a w) St fuel listed a w->
  zbk D fn ops (Region.linearise.go md ops fuel t listed []) Q s a w:=by
 intro fuel
 induction fuel with
 | zero=>intro t listed a w h;simpa [Region.linearise.go] using zad h.2
 | succ fuel ih =>
   intro t listed a w h;obtain⟨h₀,h₁⟩:=h;simp only [Region.linearise.go];change zbk D fn ops (match (Region.ready md ops listed)[t % (Region.ready md ops listed).length]? with
    | some i=>Region.linearise.go md ops fuel (t / (Region.ready md ops listed).length) (listed.setIfInBounds i true) [i]
    | none=>[].reverse) Q s a w
   cases hi:(Region.ready md ops listed)[t % (Region.ready md ops listed).length]? with
   | none =>
     have hnil:Region.ready md ops listed=[]:=by
      cases hr:Region.ready md ops listed with
      | nil=>rfl
      | cons x xs =>rw [hr] at hi;have hlt:t % (x::xs).length<(x::xs).length:=Nat.mod_lt _ od;simp at hi;simp at hlt;omega
     simpa using zad (h₀ hnil)
   | some i =>simp only [];rw [linearise_go_acc,List.reverse_singleton,List.singleton_append];exact zt1 (OpC_mono (λa' w' x=>ih _ _ a' w' x.2) (h₁ i (kag hi)))
theorem zlt{id:Nat}(hm:D.P.follows .mixedOrders=true)(_hd:∀s (w:World),D.See s w { w with drawn:=w.drawn+1 })(hdd:∀(w:World),D.Ok s w { w with drawn:=w.drawn+1 } #[] s)
  (h:∀w1,D.See s w w1->AnyCH D.P (D.See s) (λw w' es=>D.Ok s w w' es s) fn .any ops (λe a w=>Q e s a w) St ops.size (Array.replicate ops.size false) a { w1 with drawn:=w1.drawn+1 }):WpJ D fn (.region id ops true) Q s a w :=
 λb k cs hb hk hc=>D.step rfl rfl λw1 h1=>⟨_,_,_,s,stepG_region_draw,rfl,hdd w1,by
  simp only [Region.schedule,hm,Bool.true_or,if_true];exact zus ops.size _ _ _ _ (h w1 h1) b k cs hb hk hc⟩
end
section
variable{p:Par}{hst:yp0 p}{P:Program}{i:Nat}{S:zkv p P i}
theorem zdx{s:PSt}(hl:zar i s):Terms ((jdg p hst P i S).See s) (λw w' es=>(jdg p hst P i S).Ok s w w' es s) where
 trans _a _b _c h k:=zay.trans h k
 idle w:=⟨hl,JOk.idle p i s w⟩
theorem zz6{s:PSt}{fn:FuncId}{a:Go.Act}{o:Oper}{w1:World}{ad:Addr}{v:Value}(hl:zar i s)(hz:s.τ.z=0)(h2:(execOp a.eval o).events P w1 #[]=#[⟨.cell ad,false,false⟩])(hin:s.O ad.block\/p.ro ad.block)(hc1:w1.cell? ad=some v) :
  (jdg p hst P i S).Ok s w1 w1 (listed P fn a o w1) s:=by
 refine⟨hl,λ_=>⟨rfl,rfl,(zc2 rfl).symm,.inl hz,kac _,rfl,rfl,.refl _,λ_ _ _=>rfl,λe he=>?_⟩⟩
 have he':=seen_sub he
 have he2:e∈(execOp a.eval o).events P w1 #[]:=he'
 rw [h2] at he2
 simp only [kdy,kat,kb2,or_false] at he2
 subst he2
 exact zm4 (by rw [zc2 rfl];exact hin.imp id λh=>⟨h,rfl⟩) (World.block_lt_of_cell? w1 ad hc1)
theorem z9w{s:PSt}{fn:FuncId}{a:Go.Act}{w:World}{ops:Array Oper}{id:Nat}{M:PSt->Go.Act->World->Prop}{Qo:Exit->PSt->Go.Act->World->Prop}(hl:zar i s)(hm:P.follows .mixedOrders=true)
  (h:∀w1,zay (λx=>s.O x\/p.ro x) w w1->AnyCH P ((jdg p hst P i S).See s) (λw w' es=>(jdg p hst P i S).Ok s w w' es s) fn .any ops (λe a w=>zjf M Qo e s a w) (λw'=>zay (λx=>s.O x\/p.ro x) w w') ops.size (Array.replicate ops.size false) a w1) :
  WpJ (jdg p hst P i S) fn (.region id ops true) (zjf M Qo) s a w :=
 zlt (D:=jdg p hst P i S) (St:=λw'=>zay (λx=>s.O x\/p.ro x) w w') hm (λ_s _w=>⟨rfl,rfl,.refl _,kac _,λ_ _ _=>rfl⟩) (λw=>⟨hl,JOk.draw p i s w⟩)
  λw3 (s3:zay _ w w3)=>h { w3 with drawn:=w3.drawn+1 } ⟨s3.tape,s3.output,s3.os,s3.size,s3.heap⟩
theorem zpc{s:PSt}{fn:FuncId}{ops:Array Oper}{md:Region.Mode}{St:World->Prop}{M:PSt->Go.Act->World->Prop}{Qo:Exit->PSt->Go.Act->World->Prop}(hl:zar i s)(hSR:∀x y,St x->zay (λx=>s.O x\/p.ro x) x y->St y)
  (hMR:∀a x y,M s a x->zay (λx=>s.O x\/p.ro x) x y->M s a y) (n:Nat) {oi:Oper} {v:Value} {fuel:Nat} {lst:Array Bool} {a:Go.Act} {w:World} (hi:ops[n]?=some oi)
  (hs:Region.noSelect ops=true) (hf:Region.free md ops lst n=true) (hr:(Region.ready md ops lst).contains n=true) (hw:Region.wanted oi (yielded ops a.tmps)=true)
  (hy:∀wq,St wq->(execOp a.eval oi).run P wq=.ok (.value v) wq/\(jdg p hst P i S).Ok s wq wq (listed P fn a oi wq) s) (hS:St w)
  (h:AnyCH P ((jdg p hst P i S).See s) (λw w' es=>(jdg p hst P i S).Ok s w w' es s) fn md ops (λe a w=>zjf M Qo e s a w) St fuel (lst.setIfInBounds n true) (a.put oi.dst v) w) :
  AnyCH P ((jdg p hst P i S).See s) (λw w' es=>(jdg p hst P i S).Ok s w w' es s) fn md ops (λe a w=>zjf M Qo e s a w) St (fuel+1) lst a w :=
 anyCH_take (zdx hl) hSR (λa x y h r=>hMR a x y h r) hi hs hf hr (.inl ⟨hw,λwq hq=>hy wq hq⟩) hS h
end
structure Wr(P:Prop):Prop where
 p:P
theorem pu{P G:Prop}(n:P)(h:Wr P->G:=by(intro n;co_applyP zio _ rfl og ?_ ?_ ?_;(focus (intro _;apply run_eq_of;intro K hK;go_simp<;>exact hK));(focus (intro _;simp [go_sem, *]));(simp only [Act.put,zti,List.getElem_toArray,kds,kdt]);exact n.p)):G:=h ⟨n⟩
theorem pg{P G:Prop}(n:P)(h:Wr P->G:=by(intro n;co_applyP zio _ rfl oP ?_ ?_ ?_;(focus (intro _;apply run_eq_of;intro K hK;go_simp<;>exact hK));(focus (intro _;simp [go_sem, *]));(simp only [Act.put,zti,List.getElem_toArray,kds,kdt]);exact n.p)):G:=h ⟨n⟩
theorem rg{P G:Prop}(n:P)(h:Wr P->G:=by(intro n;refine zxl ?_;simp only [kdv,kbo,kbv,Nat.reduceAdd,kb0,List.range,List.range.loop];exact n.p)):G:=h ⟨n⟩
theorem nm{P G:Prop}(n:P)(h:Wr P->G:=by(intro n;(simp only [Act.put,zti,List.getElem_toArray,kds,kdt]);exact n.p)):G:=h ⟨n⟩
theorem ct{P G:Prop}(n:P)(h:Wr P->G:=by(intro n;refine zdm (t:=true) oh ?_;simp only [if_true];exact n.p)):G:=h ⟨n⟩
theorem cf{P G:Prop}(n:P)(h:Wr P->G:=by(intro n;refine zdm (t:=false) oh ?_;simp only [kbd,if_false];exact n.p)):G:=h ⟨n⟩
end Go.Kp
namespace Go.Kp
open Go Go.Conc Go.ConcM
open Go.ConcN (sumTo upd sumTo_upd upd_ne upd_same)
section
variable{p:Par}{hst:yp0 p}{P:Program}{i:Nat}{S:zkv p P i}
 {fn:FuncId} {Q:Exit->PSt->Go.Act->World->Prop} {s:PSt} {a:Go.Act} {w:World} {ops:Array Oper} {j:Nat} {rest:List Nat} {o:Oper}
theorem z6c{p:Par}(hst:yp0 p){i:Nat}{gh:PG}{w:World}{es:Array Event}{wk:Bool}{t0:Trace}(h0:GI p gh w t0)(hi:i<gh.nx)(ho:(gh.th i).z≠3)(h3:(gh.th 0).s<3)
  (k1:znj (muA p.Mu) ⟨p.Wg,0,none⟩ (zid gh.bc) gh.h i (gh.th i).d es.toList) (k2:∀e∈es,∀y,(MemAct.ofEvent e).touch?=some y->zid gh.bc y.loc=.shr) (k3:∀e∈es,(MemAct.ofEvent e).low w.heap.size) (k4:deafBehind (gh.th i).d es=(gh.th i).d) :
  zuz p i gh w es gh w wk:=by
 have hth:upd gh.th i (gh.th i)=gh.th:=by
  funext j;by_cases hj:j=i
  .subst hj;rw [upd_same]
  .rw [upd_ne _ _ hj]
 have:=zhm (wk:=wk) hst h0 hi ho h3 (gh.th i) gh.wd gh.v gh.ww gh.wT (w':=w) (es:=es) rfl rfl rfl (λ_=>Iff.rfl) (λh1 h2=>h0.z1 i h1 h2) (λh=>h0.zs i h) (h0.z5 i) (λh=>by subst h;exact⟨h0.t0.1,h0.t0.2,h3⟩) (λ_=>rfl) (λh=>(h0.ow i h).1)
  h0.mu h0.wg (λy _ _=>rfl) rfl rfl rfl (.refl _) (by rw [hth];exact h0.li) (by rw [hth];exact h0.wi) k1 k2 k3 k4 (by rw [hth];simp) (λ_ _=>⟨rfl,rfl⟩) (.inr ⟨id,id⟩)
 rw [hth] at this
 exact this
theorem zyx{gh:PG}{w1:World}{t:Trace}(hG:GI p gh w1 t)(hi:0<i)(hlt:i<gh.nx)(hz:(gh.th i).z=2):p.b<=i/\(gh.th 0).s=1/\gh.v=0/\gh.ww=true/\gh.wT=0/\(gh.th 0).a=0/\zcv p.b gh.nx gh.th (λz=>z == 2)=1/\zcv p.b gh.nx gh.th (λz=>z == 4)=0:=by
 have hbi:p.b<=i:=by
  rcases hG.st hlt oc with e|e
  .omega
  .exact e.1
 have h1:1<=zcv p.b gh.nx gh.th (λz=>z == 2):=by have:=zde gh.nx (λj=>if p.b<=j/\((gh.th j).z == 2)=true then 1 else 0) i hlt;simp [hbi,hz] at this;simpa [zcv] using this
 have kw:=hG.wi;have h3:(gh.th 0).s<3:=GI.s_lt hG oc hlt oc;have hs:(gh.th 0).s=1:=by
  rcases kae (gh.th 0).s 1 with e|e
  .have:=(kw.s0 oc).2.2.1;omega
  .rcases kae 1 (gh.th 0).s with e2|e2
   .have:=(kw.s2 e2).2.2.2.2.1;omega
   .omega
 obtain⟨ka,k⟩:=kw.s1 hs;rcases k with ⟨_,_,_,m,_⟩|⟨hv,k⟩
 .omega
 .rcases k with ⟨m1,m2,m3,m4⟩|⟨_,_,m,_⟩|⟨_,_,m,_⟩
  .exact⟨hbi,hs,hv,m1,m2,ka,m3,m4⟩
  .omega
  .omega
theorem z81{gh:PG}{w1:World}{t:Trace}(hG:GI p gh w1 t)(hi:0<i)(hlt:i<gh.nx)(hz:(gh.th i).z=4):p.b<=i/\(gh.th 0).s=1/\gh.v=0/\gh.ww=false/\gh.wT=0/\(gh.th 0).a=0/\zcv p.b gh.nx gh.th (λz=>z == 2)=0/\zcv p.b gh.nx gh.th (λz=>z == 4)=1:=by
 have hbi:p.b<=i:=by
  rcases hG.st hlt oc with e|e
  .omega
  .exact e.1
 have h1:1<=zcv p.b gh.nx gh.th (λz=>z == 4):=by have:=zde gh.nx (λj=>if p.b<=j/\((gh.th j).z == 4)=true then 1 else 0) i hlt;simp [hbi,hz] at this;simpa [zcv] using this
 have kw:=hG.wi;have hs:(gh.th 0).s=1:=by
  rcases kae (gh.th 0).s 1 with e|e
  .have:=(kw.s0 oc).2.2.2;omega
  .rcases kae 1 (gh.th 0).s with e2|e2
   .have:=(kw.s2 e2).2.2.2.2.2;omega
   .omega
 obtain⟨ka,k⟩:=kw.s1 hs;rcases k with ⟨_,_,_,_,m⟩|⟨hv,k⟩
 .omega
 .rcases k with ⟨_,_,_,m⟩|⟨m1,m2,m3,m4⟩|⟨_,_,_,m⟩
  .omega
  .exact⟨hbi,hs,hv,m1,m2,ka,m3,m4⟩
  .omega
theorem ztx{x:Operand}{f:FuncId}{ats:Array TypeId}{fnn:Func}(ho:ops[j]?=some o)(hw:Region.wanted o (yielded ops a.tmps)=true)(hop:o.op=.call { callee:=.value (.func f),args:=#[x],argTypes:=ats })
  (hf : P.funcs[f]? = some fnn) (hname : (fnn.name == "runtime.NumGoroutine") = false) (hb : fnn.body.isNone = true) (hn : Extern.findNext fnn = none) (he : Extern.find fnn = some (Extern.Atomic.loadT (.int .u64)))
  (hx:a.eval x=.pointer (some ⟨p.Wg,0,none⟩)) (hi:0<i) (hz:s.τ.z=2) (hd:0<s.τ.d)
  (h:∀n' w',zay (λx=>s.O x\/p.ro x) w w'->zbk (jdg p hst P i S) fn ops rest Q ⟨n',s.τ,s.O⟩ (a.put o.dst (.int .u64 1)) w') :
  zbk (jdg p hst P i S) fn ops (j::rest) Q s a w:=by
 refine za6 (o:=o) (λhl b k cs hbf hbk gh w1 he'=>.inr ?_) ⟨by rw [hz];decide,λh=>oc⟩
 obtain⟨t,hG⟩:=he'.gi
 have hth:gh.th i=s.τ:=he'.th
 have hzi:(gh.th i).z=2:=by rw [hth];exact hz
 obtain⟨_,_,hv,hww,_⟩:=zyx hG hi he'.lt hzi
 obtain⟨c1,_,_⟩:=ze4 hG.wg
 rw [hv,hww] at c1
 have hd1:=zeg (wk:=mayWake P (G (b.at a (.inRegion ops (j::rest)::k)) cs)) hst hG he'.lt oc (zco he' hl) rfl rfl rfl (.refl _) (x:=⟨p.Wg,0,none⟩) (.inr ⟨.inr rfl,.inl oD⟩) .r
 refine⟨_,gh,w1,_,stepG_load_atomic ho hw hbk hop hf hname hb hn .u64 he hx c1,hd1,?_⟩
 have e2:(sys p).own gh i=s.O:=he'.own
 rw [hth,e2]
 exact h _ _ he'.sees
theorem zrs{x y:Operand}{f:FuncId}{ats:Array TypeId}{fnn:Func}(ho:ops[j]?=some o)(hw:Region.wanted o (yielded ops a.tmps)=true)(hop:o.op=.call { callee:=.value (.func f),args:=#[x,y],argTypes:=ats })
  (hf : P.funcs[f]? = some fnn) (hname : (fnn.name == "runtime.NumGoroutine") = false) (hb : fnn.body.isNone = true) (hn : Extern.findNext fnn = none) (he : Extern.find fnn = some Extern.Atomic.storeT)
  (hx:a.eval x=.pointer (some ⟨p.Wg,0,none⟩)) (hy:a.eval y=.int .u64 0) (hi:0<i) (hz:s.τ.z=2) (hd:0<s.τ.d)
  (h:∀n' w',zay (λx=>s.O x\/p.ro x) w w'->zbk (jdg p hst P i S) fn ops rest Q ⟨n',{ s.τ with z:=4 },s.O⟩ (a.put o.dst (.tuple #[])) w') :
  zbk (jdg p hst P i S) fn ops (j::rest) Q s a w:=by
 refine za6 (o:=o) (λhl b k cs hbf hbk gh w1 he'=>.inr ?_) ⟨by rw [hz];decide,λh=>oc⟩
 obtain⟨t,hG⟩:=he'.gi
 have hth:gh.th i=s.τ:=he'.th
 have hzi:(gh.th i).z=2:=by rw [hth];exact hz
 have hlt:i<gh.nx:=he'.lt
 obtain⟨hbi,hs1,hv,hww,hwT,ha0,m2,m4⟩:=zyx hG hi hlt hzi
 obtain⟨c1,c2,c3⟩:=ze4 hG.wg
 have kw:=hG.wi
 have h0i:∀τ',upd gh.th i τ' 0=gh.th 0:=λτ'=>upd_ne _ _ oc
 have q1:=zbp (b:=p.b) (th:=gh.th) (τ':={ gh.th i with z:=4 }) (λz=>decide (z<2)) hlt hbi
 have q2:=zbp (b:=p.b) (th:=gh.th) (τ':={ gh.th i with z:=4 }) (λz=>z == 2) hlt hbi
 have q4:=zbp (b:=p.b) (th:=gh.th) (τ':={ gh.th i with z:=4 }) (λz=>z == 4) hlt hbi
 simp only [hzi] at q1 q2 q4
 simp at q1 q2 q4
 have hkv:=kw.v
 have step:=stepG_store_atomic (P:=P) (main:=i == 0) (b:=b) (kk:=k) (cs:=cs) (rest:=rest) (w:=w1) ho hw hbk hop hf hname hb hn he hx hy c1 (c3 0)
 have hsee:=zhh (w':=w1.setCell ⟨p.Wg,0,none⟩ (.int .u64 0)) hG he' (λy _ hy=>zbl hy) od rfl rfl (.refl _)
 have hwgn:ConcR.WgAt p.tW p.Wg (w1.setCell ⟨p.Wg,0,none⟩ (.int .u64 0)) ((0*4294967296+false.toNat:Nat):Int) (gh.wT:Int):=zu6 hG.wg 0
 have hwi:zyn p.b { gh with th:=upd gh.th i { gh.th i with z:=4 },v:=0,ww:=false,wT:=gh.wT }:=by
  refine⟨?_,λe=>?_,λe=>?_,λe=>?_,by simp only [h0i];exact kw.a1⟩
  .simp only [h0i];omega
  .simp only [h0i] at e;omega
  .simp only [h0i] at e |-;exact⟨ha0,.inr ⟨trivial,.inr (.inl ⟨trivial,hwT,oc,oc⟩)⟩⟩
  .simp only [h0i] at e;omega
 have hd1:=zgy (wk:=mayWake P (G (b.at a (.inRegion ops (j::rest)::k)) cs)) hst hG hlt oc (zco he' hl) { gh.th i with z:=4 } 0 false gh.wT rfl rfl rfl rfl rfl rfl (λ_=>by simp only;omega) (λh=>hG.zs i h) od (λh=>oc)
  hwgn (λy hy=>zbl hy) od rfl rfl rfl hwi (x:=⟨p.Wg,0,none⟩) rfl .w (.inl oD) (by rw [hzi];exact(by decide:wz 4<=wz 2)) (λ_=>.inl (by rw [hzi];exact(by decide:wz 4<wz 2))) (.inr id)
 have own:(sys p).own { gh with th:=upd gh.th i { gh.th i with z:=4 },v:=0,ww:=false,wT:=gh.wT } i=s.O:=he'.own
 have the:(({ gh with th:=upd gh.th i { gh.th i with z:=4 },v:=0,ww:=false,wT:=gh.wT }:PG).th i)={ gh.th i with z:=4 }:=upd_same _ _ _
 refine⟨_,_,_,_,step,hd1,?_⟩
 rw [the,own,hth]
 exact h _ _ hsee
theorem zxy{f:FuncId}{aZ:Array Operand}{ats:Array TypeId}{fnn:Func}(ho:ops[j]?=some o)(hw:Region.wanted o (yielded ops a.tmps)=true)(hop:o.op=.call { callee:=.value (.func f),args:=aZ,argTypes:=ats })
  (hf : P.funcs[f]? = some fnn) (hname : (fnn.name == "runtime.NumGoroutine") = false) (hb : fnn.body.isNone = true) (hn : Extern.findNext fnn = none) (he : Extern.find fnn = some Extern.Sync.semrelease)
  (hx:(aZ.map a.eval)[0]?=some (.pointer (some ⟨p.Wg,1,none⟩))) (hi:0<i) (hz:s.τ.z=4) (hd:0<s.τ.d)
  (h:∀n' w',zay (λx=>s.O x\/p.ro x) w w'->zbk (jdg p hst P i S) fn ops rest Q ⟨n',{ s.τ with z:=3 },s.O⟩ (a.put o.dst (.tuple #[])) w') :
  zbk (jdg p hst P i S) fn ops (j::rest) Q s a w:=by
 refine za6 (o:=o) (λhl b k cs hbf hbk gh w1 he'=>.inr ?_) ⟨by rw [hz];decide,λh=>oc⟩
 obtain⟨t,hG⟩:=he'.gi
 have hth:gh.th i=s.τ:=he'.th
 have hzi:(gh.th i).z=4:=by rw [hth];exact hz
 have hlt:i<gh.nx:=he'.lt
 obtain⟨hbi,hs1,hv,hww,hwT,ha0,m2,m4⟩:=z81 hG hi hlt hzi
 obtain⟨c1,c2,c3⟩:=ze4 hG.wg
 have kw:=hG.wi
 have h0i:∀τ',upd gh.th i τ' 0=gh.th 0:=λτ'=>upd_ne _ _ oc
 have q1:=zbp (b:=p.b) (th:=gh.th) (τ':={ gh.th i with z:=3 }) (λz=>decide (z<2)) hlt hbi
 have q2:=zbp (b:=p.b) (th:=gh.th) (τ':={ gh.th i with z:=3 }) (λz=>z == 2) hlt hbi
 have q4:=zbp (b:=p.b) (th:=gh.th) (τ':={ gh.th i with z:=3 }) (λz=>z == 4) hlt hbi
 simp only [hzi] at q1 q2 q4
 simp at q1 q2 q4
 have hkv:=kw.v
 have step:=stepG_semrelease (P:=P) (main:=i == 0) (b:=b) (kk:=k) (cs:=cs) (rest:=rest) (w:=w1) ho hw hbk hop hf hname hb hn he hx c2 (c3 1)
 have e1:IntKind.u32.wrap ((gh.wT:Int)+1)=((1:Nat):Int):=by rw [hwT];decide
 rw [e1] at step
 have hsee:=zhh (w':=w1.setCell ⟨p.Wg,1,none⟩ (.int .u32 ((1:Nat):Int))) hG he' (λy _ hy=>zbl hy) od rfl rfl (.refl _)
 have hwgn:ConcR.WgAt p.tW p.Wg (w1.setCell ⟨p.Wg,1,none⟩ (.int .u32 ((1:Nat):Int))) ((gh.v*4294967296+gh.ww.toNat:Nat):Int) ((1:Nat):Int):=z7b hG.wg 1
 have hwi:zyn p.b { gh with th:=upd gh.th i { gh.th i with z:=3 },v:=gh.v,ww:=gh.ww,wT:=1 }:=by
  refine⟨?_,λe=>?_,λe=>?_,λe=>?_,by simp only [h0i];exact kw.a1⟩
  .simp only [h0i];omega
  .simp only [h0i] at e;omega
  .simp only [h0i] at e |-;exact⟨ha0,.inr ⟨hv,.inr (.inr ⟨hww,trivial,oc,oc⟩)⟩⟩
  .simp only [h0i] at e;omega
 have hd1:=zgy (wk:=mayWake P (G (b.at a (.inRegion ops (j::rest)::k)) cs)) hst hG hlt oc (zco he' hl) { gh.th i with z:=3 } gh.v gh.ww 1 rfl rfl rfl rfl rfl rfl (λ_=>by simp only;omega) (λh=>hG.zs i h) od (λh=>oc)
  hwgn (λy hy=>zbl hy) od rfl rfl rfl hwi (x:=⟨p.Wg,1,none⟩) rfl .sem (.inl oD) (by rw [hzi];exact(by decide:wz 3<=wz 4)) (λ_=>.inr ⟨rfl,rfl⟩) (.inl (zke ho hop hf hb))
 have own:(sys p).own { gh with th:=upd gh.th i { gh.th i with z:=3 },v:=gh.v,ww:=gh.ww,wT:=1 } i=s.O:=he'.own
 have the:(({ gh with th:=upd gh.th i { gh.th i with z:=3 },v:=gh.v,ww:=gh.ww,wT:=1 }:PG).th i)={ gh.th i with z:=3 }:=upd_same _ _ _
 refine⟨_,_,_,_,step,hd1,?_⟩
 rw [the,own,hth]
 exact h _ _ hsee
end
section
variable{p:Par}{hst:yp0 p}{P:Program}{S:zkv p P 0}
 {fn:FuncId} {Q:Exit->PSt->Go.Act->World->Prop} {s:PSt} {a:Go.Act} {w:World} {ops:Array Oper} {j:Nat} {rest:List Nat} {o:Oper}
theorem zjg(th:Nat->Thr)(τ:Thr):upd th 0 τ 0=τ:=upd_same _ _ _
theorem lv0{s:PSt}(hz:s.τ.z=0)(hs:s.τ.s<3):zar 0 s:=⟨by rw [hz];decide,λ_=>hs⟩
theorem ztz{x y:Operand}{f:FuncId}{ats:Array TypeId}{fnn:Func}(ho:ops[j]?=some o)(hw:Region.wanted o (yielded ops a.tmps)=true)(hop:o.op=.call { callee:=.value (.func f),args:=#[x,y],argTypes:=ats })
  (hf : P.funcs[f]? = some fnn) (hname : (fnn.name == "runtime.NumGoroutine") = false) (hb : fnn.body.isNone = true) (hn : Extern.findNext fnn = none) (he : Extern.find fnn = some (Extern.Atomic.update (Op.intArith .add) .u64 true))
  (hx:a.eval x=.pointer (some ⟨p.Wg,0,none⟩)) (hy:a.eval y=.int .u64 4294967296)
  (hz:s.τ.z=0) (hs:s.τ.s=0) (ha:s.τ.a=0) (hcap:8*(p.cap-p.b)+8<2147483632)
  (h:∀n' w' (v':Nat),zay (λx=>s.O x\/p.ro x) w w'->1<=v'->v'<=(p.cap-p.b)+1->zbk (jdg p hst P 0 S) fn ops rest Q ⟨n',{ s.τ with a:=1 },s.O⟩ (a.put o.dst (.int .u64 ((v'*4294967296:Nat):Int))) w') :
  zbk (jdg p hst P 0 S) fn ops (j::rest) Q s a w:=by
 refine za6 (o:=o) (λhl b k cs hbf hbk gh w1 he'=>.inr ?_) (lv0 hz oc)
 obtain⟨t,hG⟩:=he'.gi
 have hth:gh.th 0=s.τ:=he'.th
 have hlt:0<gh.nx:=he'.lt
 have hb0:=hG.nx
 obtain⟨c1,c2,c3⟩:=ze4 hG.wg
 have kw:=hG.wi
 have hvle:=v_le hG
 have hs0:(gh.th 0).s=0:=by rw [hth];exact hs
 have ha0:(gh.th 0).a=0:=by rw [hth];exact ha
 have hz0:(gh.th 0).z=0:=by rw [hth];exact hz
 obtain⟨k1,k2,k3,k4⟩:=kw.s0 hs0
 have hv:=kw.v
 have hwrap:IntKind.u64.wrap (((gh.v*4294967296+gh.ww.toNat:Nat):Int)+4294967296)=(((gh.v+1)*4294967296+gh.ww.toNat:Nat):Int):=by rw [IntKind.wrap_u64,k1];simp only [kck];omega
 have step:=stepG_add_atomic (P:=P) (main:=(0:Nat) == 0) (b:=b) (kk:=k) (cs:=cs) (rest:=rest) (w:=w1) ho hw hbk hop hf hname hb hn .u64 he hx hy c1 (c3 0)
 rw [hwrap] at step
 have hsee:=zhh (w':=w1.setCell ⟨p.Wg,0,none⟩ (.int .u64 (((gh.v+1)*4294967296+gh.ww.toNat:Nat):Int))) hG he' (λy _ hy=>zbl hy) od rfl rfl (.refl _)
 have hwgn:=zu6 hG.wg (((gh.v+1)*4294967296+gh.ww.toNat:Nat):Int)
 have hcz:∀f,zcv p.b gh.nx (upd gh.th 0 { gh.th 0 with a:=1 }) f=zcv p.b gh.nx gh.th f:=λf=>zli f oc
 have hwi:zyn p.b { gh with th:=upd gh.th 0 { gh.th 0 with a:=1 },v:=gh.v+1,ww:=gh.ww,wT:=gh.wT }:=by
  refine⟨?_,λ_=>?_,λe=>?_,λe=>?_,by simp [upd_same]⟩
  .simp only [hcz,upd_same];omega
  .simp only [hcz];exact⟨k1,k2,k3,k4⟩
  .simp only [upd_same] at e;omega
  .simp only [upd_same] at e;omega
 have hd1:=zgy (wk:=mayWake P (G (b.at a (.inRegion ops (j::rest)::k)) cs)) hst hG hlt oc (zco he' hl) { gh.th 0 with a:=1 } (gh.v+1) gh.ww gh.wT rfl rfl rfl rfl rfl rfl (λh=>absurd rfl h) (λh=>absurd h oc) (by simp only [hz0];omega) (λ_=>⟨hz0,by simp only [hs0];omega⟩)
  hwgn (λy hy=>zbl hy) od rfl rfl rfl hwi (x:=⟨p.Wg,0,none⟩) rfl .rw (.inr rfl) (kac _) (λh=>absurd rfl h) (.inr id)
 have own:(sys p).own { gh with th:=upd gh.th 0 { gh.th 0 with a:=1 },v:=gh.v+1,ww:=gh.ww,wT:=gh.wT } 0=s.O:=he'.own
 have the:(({ gh with th:=upd gh.th 0 { gh.th 0 with a:=1 },v:=gh.v+1,ww:=gh.ww,wT:=gh.wT }:PG).th 0)={ gh.th 0 with a:=1 }:=zjg gh.th _
 refine⟨_,_,_,_,step,hd1,?_⟩
 rw [the,own,hth]
 have key:∀n' w',zay (λx=>s.O x\/p.ro x) w w'->zbk (jdg p hst P 0 S) fn ops rest Q ⟨n',{ s.τ with a:=1 },s.O⟩ (a.put o.dst (.int .u64 (((gh.v+1)*4294967296+gh.ww.toNat:Nat):Int))) w':=λn' w' hs'=>by rw [k1,kck,kb1];exact h n' w' (gh.v+1) hs' oc oc
 exact key _ _ hsee
theorem z0g(mk:Addr->Mark)(hmk:mk=.read\/mk=.write){f:FuncId}{aZ:Array Operand}{ats:Array TypeId}{fnn:Func}(ho:ops[j]?=some o)(hw:Region.wanted o (yielded ops a.tmps)=true)(hop:o.op=.call { callee:=.value (.func f),args:=aZ,argTypes:=ats })
  (hf : P.funcs[f]? = some fnn) (hname : (fnn.name == "runtime.NumGoroutine") = false) (hb : fnn.body.isNone = true) (hn : Extern.findNext fnn = none)
  (he:Extern.find fnn=some (Extern.Race.marked mk)) (hx:(aZ.map a.eval)[0]?=some (.pointer (some ⟨p.Wg,1,none⟩)))
  (hl:zar 0 s)
  (h:∀n' w',(sys p).Le n' s.n->zay (λx=>s.O x\/p.ro x) w w'->zbk (jdg p hst P 0 S) fn ops rest Q ⟨n',s.τ,s.O⟩ (a.put o.dst (.tuple #[])) w') :
  zbk (jdg p hst P 0 S) fn ops (j::rest) Q s a w:=by
 refine za6 (o:=o) (λhl b k cs hbf hbk gh w1 he'=>.inr ?_) hl
 obtain⟨t,hG⟩:=he'.gi
 have hth:gh.th 0=s.τ:=he'.th
 have hs:gh.bc p.Wg=.shr:=(hG.shr _).2 (.inr rfl)
 have hsz:=hG.sz p.Wg (by rw [hs];simp)
 have hd1:zuz p 0 gh w1 #[⟨.mark (mk ⟨p.Wg,1,none⟩),false,true⟩] gh w1 (mayWake P (G (b.at a (.inRegion ops (j::rest)::k)) cs)):=by
  refine z6c hst hG he'.lt oR (zco he' hl) ?_ ?_ ?_ ?_
  .rcases hmk with rfl|rfl
   .exact⟨by simp [MemAct.ofEvent],by simp [MemAct.ofEvent],λy hy=>by
    simp [MemAct.ofEvent,MemAct.touch?] at hy;subst hy;exact .inr (.inr (.inr ⟨hs,.inr ⟨rfl,rfl⟩,.inr rfl⟩)),trivial⟩
   .exact⟨by simp [MemAct.ofEvent],by simp [MemAct.ofEvent],λy hy=>by
    simp [MemAct.ofEvent,MemAct.touch?] at hy;subst hy;exact .inr (.inr (.inr ⟨hs,.inr ⟨rfl,rfl⟩,.inr rfl⟩)),trivial⟩
  .intro e he y hy;simp at he;subst he;rcases hmk with rfl|rfl<;>(simp [MemAct.ofEvent,MemAct.touch?] at hy;subst hy;exact hs)
  .intro e he;simp at he;subst he;rcases hmk with rfl|rfl<;>exact hsz
  .rcases hmk with rfl|rfl<;>rfl
 refine⟨.tuple #[],gh,w1,_,stepG_markAt mk (by rcases hmk with rfl|rfl<;>simp) ho hw hbk hop hf hname hb hn he hx,hd1,?_⟩
 have e2:(sys p).own gh 0=s.O:=he'.own
 rw [hth,e2]
 exact h _ _ he'.rk he'.sees
theorem zru{x:Operand}{f:FuncId}{ats:Array TypeId}{fnn:Func}(ho:ops[j]?=some o)(hw:Region.wanted o (yielded ops a.tmps)=true)(hop:o.op=.call { callee:=.value (.func f),args:=#[x],argTypes:=ats })
  (hf : P.funcs[f]? = some fnn) (hname : (fnn.name == "runtime.NumGoroutine") = false) (hb : fnn.body.isNone = true) (hn : Extern.findNext fnn = none) (he : Extern.find fnn = some (Extern.Atomic.loadT (.int .u64)))
  (hx:a.eval x=.pointer (some ⟨p.Wg,0,none⟩)) (hz:s.τ.z=0) (hs:s.τ.s=0) (ha:s.τ.a=0)
  (h:∀n' w' (v':Nat),(sys p).Le n' s.n->zay (λx=>s.O x\/p.ro x) w w'->v'<=(p.cap-p.b)->
    (v'=0->zbk (jdg p hst P 0 S) fn ops rest Q ⟨n',{ s.τ with s:=2 },s.O⟩ (a.put o.dst (.int .u64 0)) w')/\
    (0<v'->n'.2=v'*4294967296->zbk (jdg p hst P 0 S) fn ops rest Q ⟨n',s.τ,s.O⟩ (a.put o.dst (.int .u64 ((v'*4294967296:Nat):Int))) w')) :
  zbk (jdg p hst P 0 S) fn ops (j::rest) Q s a w:=by
 refine za6 (o:=o) (λhl b k cs hbf hbk gh w1 he'=>.inr ?_) (lv0 hz oc)
 obtain⟨t,hG⟩:=he'.gi
 have hth:gh.th 0=s.τ:=he'.th
 have hlt:0<gh.nx:=he'.lt
 have hb0:=hG.nx
 obtain⟨c1,c2,c3⟩:=ze4 hG.wg
 have kw:=hG.wi
 have hvle:=v_le hG
 have hs0:(gh.th 0).s=0:=by rw [hth];exact hs
 have ha0:(gh.th 0).a=0:=by rw [hth];exact ha
 have hz0:(gh.th 0).z=0:=by rw [hth];exact hz
 obtain⟨k1,k2,k3,k4⟩:=kw.s0 hs0
 have hv:=kw.v
 have e0:gh.v*4294967296+gh.ww.toNat=gh.v*4294967296:=by rw [k1,kck,kb1]
 have eO:(sys p).own gh 0=s.O:=he'.own
 by_cases hv0:gh.v=0
 .have hcz:∀f,zcv p.b gh.nx (upd gh.th 0 { gh.th 0 with s:=2 }) f=zcv p.b gh.nx gh.th f:=λf=>zli f oc;have hwi:zyn p.b { gh with th:=upd gh.th 0 { gh.th 0 with s:=2 },v:=gh.v,ww:=gh.ww,wT:=gh.wT }:=by
    refine⟨?_,λe=>?_,λe=>?_,λe=>?_,by simp only [upd_same];omega⟩
    .simp only [hcz,upd_same];omega
    .simp only [upd_same] at e;omega
    .simp only [upd_same] at e;omega
    .simp only [hcz,upd_same];exact⟨ha0,hv0,k1,k2,k3,k4⟩
  have hd1:=zgy (wk:=mayWake P (G (b.at a (.inRegion ops (j::rest)::k)) cs)) hst hG hlt oc (zco he' hl) { gh.th 0 with s:=2 } gh.v gh.ww gh.wT (w':=w1) rfl rfl rfl rfl rfl rfl (λh=>absurd rfl h) (λh=>absurd h oc) (by simp only [hz0];omega) (λ_=>⟨hz0,od⟩)
   hG.wg (λy hy=>rfl) rfl rfl rfl rfl hwi (x:=⟨p.Wg,0,none⟩) rfl .r (.inr rfl) (kac _) (λh=>absurd rfl h) (.inr id)
  have own:(sys p).own { gh with th:=upd gh.th 0 { gh.th 0 with s:=2 },v:=gh.v,ww:=gh.ww,wT:=gh.wT } 0=s.O:=he'.own;have the:(({ gh with th:=upd gh.th 0 { gh.th 0 with s:=2 },v:=gh.v,ww:=gh.ww,wT:=gh.wT }:PG).th 0)={ gh.th 0 with s:=2 }:=zjg gh.th _;have hle:(sys p).Le ((sys p).now { gh with th:=upd gh.th 0 { gh.th 0 with s:=2 },v:=gh.v,ww:=gh.ww,wT:=gh.wT } 0) ((sys p).now gh 0):=by
   have:=zhd (p:=p) (gh:=gh) (i:=0) (τ':={ gh.th 0 with s:=2 }) (h':=gh.h) (bc':=gh.bc) rfl rfl rfl 0;exact⟨kdw (congrArg Prod.fst this),λ_=>congrArg Prod.snd this⟩
  refine⟨_,_,w1,_,stepG_load_atomic ho hw hbk hop hf hname hb hn .u64 he hx c1,hd1,?_⟩;rw [the,own];have e3:((gh.v*4294967296+gh.ww.toNat:Nat):Int)=0:=by rw [e0,hv0];rfl
  rw [e3];have:=(h _ w1 gh.v (hle.trans he'.rk) he'.sees oc).1 hv0;rw [hth] at this |-;exact this
 .have hd1:=zeg (wk:=mayWake P (G (b.at a (.inRegion ops (j::rest)::k)) cs)) hst hG hlt oc (zco he' hl) rfl rfl rfl (.refl _) (x:=⟨p.Wg,0,none⟩) (.inr ⟨.inr rfl,.inr rfl⟩) .r;refine⟨_,gh,w1,_,stepG_load_atomic ho hw hbk hop hf hname hb hn .u64 he hx c1,hd1,?_⟩;rw [hth,eO,e0];refine(h _ w1 gh.v he'.rk he'.sees oc).2 oc ?_;show gh.v*4294967296+gh.ww.toNat=_;exact e0
theorem zxz{x y z:Operand}{f:FuncId}{ats:Array TypeId}{fnn:Func}(ho:ops[j]?=some o)(hw:Region.wanted o (yielded ops a.tmps)=true)(hop:o.op=.call { callee:=.value (.func f),args:=#[x,y,z],argTypes:=ats })
  (hf : P.funcs[f]? = some fnn) (hname : (fnn.name == "runtime.NumGoroutine") = false) (hb : fnn.body.isNone = true) (hn : Extern.findNext fnn = none) (he : Extern.find fnn = some (Extern.Atomic.casT (.int .u64)))
  (v0:Nat) (hx:a.eval x=.pointer (some ⟨p.Wg,0,none⟩)) (hy:a.eval y=.int .u64 ((v0*4294967296:Nat):Int)) (hzz:a.eval z=.int .u64 ((v0*4294967296+1:Nat):Int))
  (hz:s.τ.z=0) (hs:s.τ.s=0) (ha:s.τ.a=0) (hv0:0<v0) (hn2:s.n.2=v0*4294967296)
  (hit:∀n' w',zay (λx=>s.O x\/p.ro x) w w'->zbk (jdg p hst P 0 S) fn ops rest Q ⟨n',{ s.τ with s:=1 },s.O⟩ (a.put o.dst (.bool true)) w')
  (miss:∀n' w',n'.1<s.n.1->zay (λx=>s.O x\/p.ro x) w w'->zbk (jdg p hst P 0 S) fn ops rest Q ⟨n',s.τ,s.O⟩ (a.put o.dst (.bool false)) w') :
  zbk (jdg p hst P 0 S) fn ops (j::rest) Q s a w:=by
 refine za6 (o:=o) (λhl b k cs hbf hbk gh w1 he'=>.inr ?_) (lv0 hz oc)
 obtain⟨t,hG⟩:=he'.gi
 have hth:gh.th 0=s.τ:=he'.th
 have hlt:0<gh.nx:=he'.lt
 have hb0:=hG.nx
 obtain⟨c1,c2,c3⟩:=ze4 hG.wg
 have kw:=hG.wi
 have hs0:(gh.th 0).s=0:=by rw [hth];exact hs
 have ha0:(gh.th 0).a=0:=by rw [hth];exact ha
 have hz0:(gh.th 0).z=0:=by rw [hth];exact hz
 obtain⟨k1,k2,k3,k4⟩:=kw.s0 hs0
 have hv:=kw.v
 have e0:gh.v*4294967296+gh.ww.toNat=gh.v*4294967296:=by rw [k1,kck,kb1]
 have eO:(sys p).own gh 0=s.O:=he'.own
 by_cases e:gh.v=v0
 .have hcz:∀f,zcv p.b gh.nx (upd gh.th 0 { gh.th 0 with s:=1 }) f=zcv p.b gh.nx gh.th f:=λf=>zli f oc;have hwi:zyn p.b { gh with th:=upd gh.th 0 { gh.th 0 with s:=1 },v:=gh.v,ww:=true,wT:=gh.wT }:=by
    refine⟨?_,λe=>?_,λe=>?_,λe=>?_,by simp only [upd_same];omega⟩
    .simp only [hcz,upd_same];omega
    .simp only [upd_same] at e;omega
    .simp only [hcz,upd_same];exact⟨ha0,.inl ⟨oc,trivial,k2,k3,k4⟩⟩
    .simp only [upd_same] at e;omega
  have hwgn:ConcR.WgAt p.tW p.Wg (w1.setCell ⟨p.Wg,0,none⟩ (.int .u64 ((v0*4294967296+1:Nat):Int))) ((gh.v*4294967296+true.toNat:Nat):Int) (gh.wT:Int):=by rw [e];exact zu6 hG.wg _
  have hd1:=zgy (wk:=mayWake P (G (b.at a (.inRegion ops (j::rest)::k)) cs)) hst hG hlt oc (zco he' hl) { gh.th 0 with s:=1 } gh.v true gh.wT rfl rfl rfl rfl rfl rfl (λh=>absurd rfl h) (λh=>absurd h oc) (by simp only [hz0];omega) (λ_=>⟨hz0,od⟩)
   hwgn (λy hy=>zbl hy) od rfl rfl rfl hwi (x:=⟨p.Wg,0,none⟩) rfl .rw (.inr rfl) (kac _) (λh=>absurd rfl h) (.inr id)
  have own:(sys p).own { gh with th:=upd gh.th 0 { gh.th 0 with s:=1 },v:=gh.v,ww:=true,wT:=gh.wT } 0=s.O:=he'.own;have the:(({ gh with th:=upd gh.th 0 { gh.th 0 with s:=1 },v:=gh.v,ww:=true,wT:=gh.wT }:PG).th 0)={ gh.th 0 with s:=1 }:=zjg gh.th _;have hsee:=zhh (w':=w1.setCell ⟨p.Wg,0,none⟩ (.int .u64 ((v0*4294967296+1:Nat):Int))) hG he' (λy _ hy=>zbl hy) od rfl rfl (.refl _)
  refine⟨.bool true,_,_,_,stepG_cas_hit ho hw hbk hop hf hname hb hn .u64 he hx hy hzz (by rw [c1,e0,e]) (c3 0),hd1,?_⟩;rw [the,own,hth];exact hit _ _ hsee
 .have hd1:=zeg (wk:=mayWake P (G (b.at a (.inRegion ops (j::rest)::k)) cs)) hst hG hlt oc (zco he' hl) rfl rfl rfl (.refl _) (x:=⟨p.Wg,0,none⟩) (.inr ⟨.inr rfl,.inr rfl⟩) .r;refine⟨.bool false,gh,w1,_,stepG_cas_miss ho hw hbk hop hf hname hb hn .u64 he hx hy hzz c1 (c3 0) oc,hd1,?_⟩;rw [hth,eO];refine miss _ w1 (Nat.lt_of_le_of_ne he'.rk.1 λq=>?_) he'.sees;have:=he'.rk.2 q
  rw [hn2] at this;have h2:gh.v*4294967296+gh.ww.toNat=v0*4294967296:=this;omega
theorem zxx{f:FuncId}{aZ:Array Operand}{ats:Array TypeId}{fnn:Func}(ho:ops[j]?=some o)(hw:Region.wanted o (yielded ops a.tmps)=true)(hop:o.op=.call { callee:=.value (.func f),args:=aZ,argTypes:=ats })
  (hf : P.funcs[f]? = some fnn) (hname : (fnn.name == "runtime.NumGoroutine") = false) (hb : fnn.body.isNone = true) (hn : Extern.findNext fnn = none) (he : Extern.find fnn = some Extern.Sync.semacquire)
  (hx:(aZ.map a.eval)[0]?=some (.pointer (some ⟨p.Wg,1,none⟩))) (hz:s.τ.z=0) (hs:s.τ.s=1)
  (h:∀n' w',zay (λx=>s.O x\/p.ro x) w w'->zbk (jdg p hst P 0 S) fn ops rest Q ⟨n',{ s.τ with s:=2 },s.O⟩ (a.put o.dst (.tuple #[])) w') :
  zbk (jdg p hst P 0 S) fn ops (j::rest) Q s a w:=by
 refine za6 (o:=o) (λhl b k cs hbf hbk gh w1 he'=>?_) (lv0 hz oc)
 obtain⟨t,hG⟩:=he'.gi
 have hth:gh.th 0=s.τ:=he'.th
 have hlt:0<gh.nx:=he'.lt
 have hb0:=hG.nx
 obtain⟨c1,c2,c3⟩:=ze4 hG.wg
 have kw:=hG.wi
 have hs1:(gh.th 0).s=1:=by rw [hth];exact hs
 have hz0:(gh.th 0).z=0:=by rw [hth];exact hz
 have hv:=kw.v
 obtain⟨ha0,kk⟩:=kw.s1 hs1
 rcases kbj gh.wT with hT|hT
 .rw [hT] at c2;exact .inl ⟨.inr ⟨hs1,hT⟩,stepG_semacquire_wait ho hw hop hf hname hb hn he hx c2⟩
 .have hkk:gh.v=0/\gh.ww=false/\gh.wT=1/\zcv p.b gh.nx gh.th (λz=>z == 2)=0/\zcv p.b gh.nx gh.th (λz=>z == 4)=0:=by
     rcases kk with ⟨_,_,m,_⟩|⟨hv0,⟨_,m,_⟩|⟨_,m,_⟩|⟨m1,m2,m3,m4⟩⟩
     .omega
     .omega
     .omega
     .exact⟨hv0,m1,m2,m3,m4⟩
  obtain⟨hv0,hww,hwT,m3,m4⟩:=hkk;have hcz:∀f,zcv p.b gh.nx (upd gh.th 0 { gh.th 0 with s:=2 }) f=zcv p.b gh.nx gh.th f:=λf=>zli f oc;have hwi:zyn p.b { gh with th:=upd gh.th 0 { gh.th 0 with s:=2 },v:=gh.v,ww:=gh.ww,wT:=0 }:=by
   refine⟨?_,λe=>?_,λe=>?_,λe=>?_,by simp only [upd_same];omega⟩
   .simp only [hcz,upd_same];omega
   .simp only [upd_same] at e;omega
   .simp only [upd_same] at e;omega
   .simp only [hcz,upd_same];exact⟨ha0,hv0,hww,trivial,m3,m4⟩
  have step:=stepG_semacquire (P:=P) (main:=(0:Nat) == 0) (b:=b) (kk:=k) (cs:=cs) (rest:=rest) (w:=w1) ho hw hbk hop hf hname hb hn he hx c2 oc (c3 1);have e1:((gh.wT:Int)-1)=((0:Nat):Int):=oc
  rw [e1] at step;have hwgn:ConcR.WgAt p.tW p.Wg (w1.setCell ⟨p.Wg,1,none⟩ (.int .u32 ((0:Nat):Int))) ((gh.v*4294967296+gh.ww.toNat:Nat):Int) ((0:Nat):Int):=z7b hG.wg 0
  have hd1:=zgy (wk:=mayWake P (G (b.at a (.inRegion ops (j::rest)::k)) cs)) hst hG hlt oc (zco he' hl) { gh.th 0 with s:=2 } gh.v gh.ww 0 rfl rfl rfl rfl rfl rfl (λh=>absurd rfl h) (λh=>absurd h oc) (by simp only [hz0];omega) (λ_=>⟨hz0,od⟩)
   hwgn (λy hy=>zbl hy) od rfl rfl rfl hwi (x:=⟨p.Wg,1,none⟩) rfl .sem (.inr rfl) (kac _) (λh=>absurd rfl h) (.inr λ_=>rfl)
  have own:(sys p).own { gh with th:=upd gh.th 0 { gh.th 0 with s:=2 },v:=gh.v,ww:=gh.ww,wT:=0 } 0=s.O:=he'.own;have the:(({ gh with th:=upd gh.th 0 { gh.th 0 with s:=2 },v:=gh.v,ww:=gh.ww,wT:=0 }:PG).th 0)={ gh.th 0 with s:=2 }:=zjg gh.th _;have hsee:=zhh (w':=w1.setCell ⟨p.Wg,1,none⟩ (.int .u32 ((0:Nat):Int))) hG he' (λy _ hy=>zbl hy) od rfl rfl (.refl _)
  refine .inr ⟨.tuple #[],_,_,_,step,hd1,?_⟩;rw [the,own,hth];exact h _ _ hsee
theorem zrt{x:Operand}{f:FuncId}{ats:Array TypeId}{fnn:Func}(ho:ops[j]?=some o)(hw:Region.wanted o (yielded ops a.tmps)=true)(hop:o.op=.call { callee:=.value (.func f),args:=#[x],argTypes:=ats })
  (hf : P.funcs[f]? = some fnn) (hname : (fnn.name == "runtime.NumGoroutine") = false) (hb : fnn.body.isNone = true) (hn : Extern.findNext fnn = none) (he : Extern.find fnn = some (Extern.Atomic.loadT (.int .u64)))
  (hx:a.eval x=.pointer (some ⟨p.Wg,0,none⟩)) (hz:s.τ.z=0) (hs:s.τ.s=2)
  (h:∀n' w',zay (λx=>s.O x\/p.ro x) w w'->zbk (jdg p hst P 0 S) fn ops rest Q ⟨n',s.τ,s.O⟩ (a.put o.dst (.int .u64 0)) w') :
  zbk (jdg p hst P 0 S) fn ops (j::rest) Q s a w:=by
 refine za6 (o:=o) (λhl b k cs hbf hbk gh w1 he'=>.inr ?_) (lv0 hz oc)
 obtain⟨t,hG⟩:=he'.gi
 have hth:gh.th 0=s.τ:=he'.th
 have hs2:(gh.th 0).s=2:=by rw [hth];exact hs
 have hz0:(gh.th 0).z=0:=by rw [hth];exact hz
 obtain⟨_,hv,hww,_⟩:=hG.wi.s2 oc
 obtain⟨c1,_,_⟩:=ze4 hG.wg
 rw [hv,hww] at c1
 have hd1:=zeg (wk:=mayWake P (G (b.at a (.inRegion ops (j::rest)::k)) cs)) hst hG he'.lt oc (zco he' hl) rfl rfl rfl (.refl _) (x:=⟨p.Wg,0,none⟩) (.inr ⟨.inr rfl,.inr rfl⟩) .r
 refine⟨_,gh,w1,_,stepG_load_atomic ho hw hbk hop hf hname hb hn .u64 he hx c1,hd1,?_⟩
 have e2:(sys p).own gh 0=s.O:=he'.own
 rw [hth,e2]
 exact h _ _ he'.sees
theorem zrw{f:FuncId}{aZ:Array Operand}{ats:Array TypeId}{fnn:Func}(ho:ops[j]?=some o)(hw:Region.wanted o (yielded ops a.tmps)=true)(hop:o.op=.call { callee:=.value (.func f),args:=aZ,argTypes:=ats })
  (hf : P.funcs[f]? = some fnn) (hname : (fnn.name == "runtime.NumGoroutine") = false) (hb : fnn.body.isNone = true) (hn : Extern.findNext fnn = none)
  (he:Extern.find fnn=some (Extern.Race.marked .acquire)) (hx:(aZ.map a.eval)[0]?=some (.pointer (some ⟨p.Wg,0,none⟩)))
  (hz:s.τ.z=0) (hs:s.τ.s=2) (hd:s.τ.d=0)
  (h:∀n' w',zay (λx=>s.O x\/p.ro x) w w'->zbk (jdg p hst P 0 S) fn ops rest Q ⟨n',{ s.τ with s:=3 },s.O⟩ (a.put o.dst (.tuple #[])) w') :
  zbk (jdg p hst P 0 S) fn ops (j::rest) Q s a w:=by
 refine za6 (o:=o) (λhl b k cs hbf hbk gh w1 he'=>.inr ?_) (lv0 hz oc)
 obtain⟨t,hG⟩:=he'.gi
 have hth:gh.th 0=s.τ:=he'.th
 have hs2:(gh.th 0).s=2:=by rw [hth];exact hs
 obtain⟨ha0,hv,hww,_⟩:=hG.wi.s2 oc
 have hd1:=z6z (wk:=mayWake P (G (b.at a (.inRegion ops (j::rest)::k)) cs)) hG oc oc hv ha0 oD
 refine⟨.tuple #[],_,w1,_,stepG_markAt .acquire od ho hw hbk hop hf hname hb hn he hx,hd1,?_⟩
 have e1:(({ gh with th:=upd gh.th 0 { gh.th 0 with s:=3 } }:PG).th 0)={ gh.th 0 with s:=3 }:=zjg gh.th _
 have e2:(sys p).own { gh with th:=upd gh.th 0 { gh.th 0 with s:=3 } } 0=s.O:=he'.own
 rw [e1,e2,hth]
 exact h _ _ he'.sees
end
def z3o(D:Jdg)(f:FuncId)(Q:D.St->Act->World->Prop)(s:D.St)(a:Act)(w:World):Prop :=
 ∀(b:Frame) (cs:List Frame),b.fn=f->(∀s' a' w',Q s' a' w'->a'.defers=[]->∀todo,D.J s' (G { b.at a' todo with mode:=.returning } cs) w')->∀todo,D.J s (G { b.at a todo with mode:=.returning } cs) w
def zsr(D:Jdg)(f:FuncId)(fn:Func)(Post:D.St->Value->World->Prop):Exit->D.St->Act->World->Prop
 | .normal,s,a,w|.ret,s,a,w=>z3o D f (λs a w=>∃v,ResultsC D.P fn a.tmps v/\Post s v w) s a w
 | _,_,_,_=>False
def zhv(D:Jdg)(f:FuncId)(args:Array Value)(s:D.St)(w:World)(Post:D.St->Value->World->Prop):Prop :=
 ∃ fn c, D.P.funcs[f]? = some fn /\ (fn.name == "runtime.NumGoroutine") = false /\ fn.body = some c /\
   WpJ D f c (zsr D f fn Post) s { tmps:=args++Array.replicate (fn.ntmps-args.size) undef,defers:=[] } w
section
variable{D:Jdg}{f:FuncId}{Q:D.St->Act->World->Prop}{s:D.St}{a:Act}{w:World}{args:Array Value}{Post:D.St->Value->World->Prop}
theorem zfx(hd:a.defers=[])(h:Q s a w):z3o D f Q s a w:=λ_ _ _ hq todo=>hq s a w h hd todo
theorem zbv.toG(h:zbv D f args s w Post):zhv D f args s w Post:=by obtain⟨fn,c,hf,hn,hb,hw⟩:=h;refine⟨fn,c,hf,hn,hb,zu4 hw λe s a w q=>?_⟩;cases e<;>first|exact zfx q.1 q.2|exact q
theorem zhv.back(hcall:zhv D f args s w Post){c:Frame}{cs:List Frame}
  (hnext:∀s' v w',Post s' v w'->(c.finish v).mode=.run->D.J s' (G (c.finish v) cs) w') (hm:∀v,(c.finish v).mode=.run):D.J s (G (Frame.enter D.P f args .normal) (c::cs)) w:=by
 obtain⟨fn,code,hf,hname,hbody,hwp⟩:=hcall
 have hleave:∀(s':D.St) (a':Act) (w':World),z3o D f (λs a w=>∃v,ResultsC D.P fn a.tmps v/\Post s v w) s' a' w'->∀todo,D.J s' (G { (base f).at a' todo with mode:=.returning } (c::cs)) w':=by
  intro s' a' w' ho;refine ho (base f) (c::cs) rfl ?_;rintro s1 a1 w1 ⟨v,hr,hp⟩ hd todo
  exact Jdg.ctl rfl rfl rfl (λw₁=>stepG_leave (b:=base f) rfl hd hf (hr w₁).1 (hr w₁).2) (hnext s1 v w1 hp (hm v))
 rw [enter_at _ hf hbody]
 refine hwp (base f) [] _ rfl oU λe s' a' w' q=>?_
 cases e with
 | normal=>exact Jdg.ctl rfl rfl rfl (λ_=>stepG_end) (hleave s' a' w' q [])
 | ret=>exactλtodo=>hleave s' a' w' q todo
 | exit id=>exact q.elim
 | goto l=>exact q.elim
 | panic ch=>exact q.elim
 | outgrown=>exact q.elim
theorem zrx{fn:FuncId}{Q:Exit->D.St->Act->World->Prop}{vs:Array Value}{ops:Array Oper}{i:Nat}{rest:List Nat}{o:Oper}{args:Array Operand}{ats:Array TypeId}
  (ho:ops[i]?=some o) (hw:Region.wanted o (yielded ops a.tmps)=true) (hop:o.op=.call { callee:=.value (.func f),args,argTypes:=ats }) (hv:args.map a.eval=vs)
  (hcall:zhv D f vs s w Post) (hnext:∀s' v w',Post s' v w'->zbk D fn ops rest Q s' (a.put o.dst v) w'):zbk D fn ops (i::rest) Q s a w:=by
 subst hv
 intro b k cs hb hk hc
 have hfin:∀v,(b.at a (.inRegion ops (i::rest)::k)).finish v=b.at (a.put o.dst v) (.inRegion ops rest::k):=λv=>by rw [Frame.finish_at,ho];rfl
 have hb':=hcall
 obtain⟨fn',code,hf,hname,hbody,_⟩:=hb'
 have hbn:fn'.body.isNone=false:=by rw [hbody];rfl
 refine Jdg.ctl rfl rfl rfl (λw₁=>?_) (hcall.back (c:=b.at a (.inRegion ops (i::rest)::k)) (cs:=cs) (λs' v w' hp _=>?_) λv=>by rw [hfin];rfl)
 .rw [stepG_enter ho hw hk (run_call_body hop hf hname hbn)];have:listed D.P b.fn a o w₁=#[]:=by unfold listed;rw [events_call_body hop hf hname hbn];exact seen_none D.P _
  rw [this]
 .rw [hfin];exact hnext s' v w' hp b k cs hb hk hc
theorem zjm{fn:FuncId}{Q:Exit->D.St->Act->World->Prop}{vs:Array Value}{ops:Array Oper}{i:Nat}{rest:List Nat}{o:Oper}{aZ:Array Operand}{ats:Array TypeId}
  (ho:ops[i]?=some o) (hw:Region.wanted o (yielded ops a.tmps)=true) (hop:o.op=.defer { callee:=.value (.func f),args:=aZ,argTypes:=ats }) (hv:aZ.map a.eval=vs)
  (h:zbk D fn ops rest Q s (Act.put ⟨a.tmps,dcall f vs::a.defers⟩ o.dst undef) w):zbk D fn ops (i::rest) Q s a w:=by
 subst hv
 exactλb k cs hb hk hc=>Jdg.ctl rfl rfl rfl (λ_=>stepG_defer ho hw hk hop) (h b k cs hb hk hc)
theorem zl6{g:FuncId}{vs:Array Value}{ds:List Deferred}{Post':D.St->Value->World->Prop}(hd:a.defers=dcall g vs::ds)(hcall:zhv D g vs s w Post')
  (hnext:∀s' v w',Post' s' v w'->z3o D f Q s' ⟨a.tmps,ds⟩ w'):z3o D f Q s a w:=by
 intro b cs hb hq todo
 obtain⟨fn,code,hf,hname,hbody,hwp⟩:=hcall
 have hleave:∀(s':D.St) (a':Act) (w':World),z3o D g (λs a w=>∃v,ResultsC D.P fn a.tmps v/\Post' s v w) s' a' w'->
   ∀todo',D.J s' (G { (baseD g).at a' todo' with mode:=.returning } ({ b.at ⟨a.tmps,ds⟩ todo with mode:=.returning }::cs)) w':=by
  intro s' a' w' ho
  refine ho (baseD g) _ rfl ?_
  rintro s1 a1 w1 ⟨v,hr,hp⟩ hd1 todo'
  exact Jdg.ctl rfl rfl rfl (λw₁=>stepG_leave_deferred (b:=baseD g) rfl hd1 hf (hr w₁).1 (hr w₁).2 rfl) (hnext s1 v w1 hp b cs hb hq todo)
 refine Jdg.ctl rfl rfl rfl (λ_=>stepG_unwind_enter hd hf hname hbody) ?_
 refine hwp (baseD g) [] _ rfl (by simp [baseD]) λe s' a' w' q=>?_
 cases e with
 | normal=>exact Jdg.ctl rfl rfl rfl (λ_=>stepG_end) (hleave s' a' w' q [])
 | ret=>exactλtodo'=>hleave s' a' w' q todo'
 | exit id=>exact q.elim
 | goto l=>exact q.elim
 | panic ch=>exact q.elim
 | outgrown=>exact q.elim
end
def zkq(p:Par)(P:Program)(i:Nat)(hi:0<i):zkv p P i where
 Ch:=λ_ _ _ _=>False
 Lf:=(sys p).LfW P
 hLf _ _ _ _ _ _ _ h:=h
 hLn _ _ _ _ _ _ _ h:=h
 Tl s g _:=∃q,QuitsD P q s.τ.d g
 tctl {s g g' w} hr _ h:=λ⟨q,hq⟩=>by
  have e:(i == 0)=false:=by simp;omega
  rw [e] at h;exact⟨q+1,QuitsD.ctl hr h hq⟩
 trely _ _ h:=h
 last {s g w} hn h:=⟨.leaf,by
  have:s.τ.z=3:=Classical.byContradiction λhz=>hn ⟨hz,λh0=>oc⟩;exact⟨this,h⟩⟩
theorem z90{p:Par}{gh:PG}{w:World}{t:Trace}{Gb:Nat->Prop}(hG:GI p gh w t)(hs:3<=(gh.th 0).s)(hM:Gb p.Mu)(hW:Gb p.Wg)(hb:∀x,p.Gb x->Gb x):Past (zja Gb) w.heap.size t:=by
 have k:=hG.past hs;refine⟨k.clean,λi a ha hm=>(k.known i a ha hm).imp id λ⟨h1,h2⟩=>⟨?_,h2⟩,k.over,k.hears,k.seen⟩;have hcl:∀x,(zid gh.bc a.loc=gh.bc x)->x<w.heap.size->Gb x:=λx e hx=>by
  rcases h1 with h|h
  .rw [e] at h;rcases(hG.shr x).1 h with rfl|rfl
   .exact hM
   .exact hW
  .rw [e] at h;exact hb x (hG.old x hx h)
 have hlow:a.loc.low w.heap.size:=by
  unfold touchAt Trace.act? at ha;cases ho:t[i]? with
  | none=>simp [ho] at ha
  | some op =>
    simp only [ho,kcc,Option.bind_some] at ha;have hl:=k.seen op (kbl ho);cases hact:op.act with
    | access e=>rw [hact] at ha hl;simp only [MemAct.touch?,kap] at ha;subst ha;exact hl
    | mark m =>
      rw [hact] at ha hl;cases m with
      | read ad=>simp only [MemAct.touch?,kap] at ha;subst ha;exact hl
      | write ad=>simp only [MemAct.touch?,kap] at ha;subst ha;exact hl
      | _=>simp [MemAct.touch?] at ha
    | _=>rw [hact] at ha;simp [MemAct.touch?] at ha
 cases hl:a.loc with
 | cell ad=>rw [hl] at hlow hcl;exact hcl ad.block rfl hlow
 | obj r=>rw [hl] at hlow hcl;exact hcl r rfl hlow
 | _=>rw [hl] at hm;cases hm
def ztk(p:Par)(P:Program)(Post:Value->World->Prop)(Gb:Nat->Prop)(hst:yp0 p)(hM:Gb p.Mu)(hW:Gb p.Wg)(hb:∀x,p.Gb x->Gb x):zkv p P 0 where
 Ch:=λc gh child w=>¬(sys p).over ((sys p).th gh c)/\child.status=.running/\(sys p).JW P c ((sys p).now gh c) ((sys p).th gh c) ((sys p).own gh c) child w
 Lf:=(sys p).LfS P Post Gb
 hLf _ _ _ _ _ _ hs h:=λgh w2 he=>h gh w2 ⟨he.th,he.own,he.rk,he.lt,hs.trans he.sees,he.gi⟩
 hLn _ _ _ _ _ _ hle h:=λgh w2 he=>h gh w2 ⟨he.th,he.own,he.rk.trans hle,he.lt,he.sees,he.gi⟩
 Tl s g w:=g.status=.running/\∀gh w1,(sys p).Env 0 s.n s.τ s.O w gh w1->FinG P Post Gb g w1
 tctl {s g g' w} hr _ h:=λ⟨_,ht⟩=>⟨hr,λgh w1 he=>z1v hr λd=>⟨g',w1.at d,#[],h _,kac _,od,ht gh (w1.at d) ⟨he.th,he.own,he.rk,he.lt,he.sees.at d,he.gi.imp λt hG=>(zzb p hst).at_ gh w1 t d hG⟩⟩⟩
 trely _ hs h:=⟨h.1,λgh w2 he=>h.2 gh w2 ⟨he.th,he.own,he.rk,he.lt,hs.trans he.sees,he.gi⟩⟩
 last {s g w} hn h:=⟨.leaf,λgh w1 he=>by
  have hs3:∀t,GI p gh w1 t->3<=(gh.th 0).s:=λt hG=>by have hth:gh.th 0=s.τ:=he.th;rw [hth];refine Nat.le_of_not_lt λh3=>hn ⟨?_,λ_=>h3⟩;rw [<-hth,hG.t0.2];decide
  refine⟨λt hG=>⟨z90 hG (hs3 t hG) hM hW hb,λj hj hl=>?_⟩,h.2 gh w1 he,h.1⟩;show(gh.th j).z=3;by_cases hbj:p.b<=j
  .exact hG.wi.over hG.z5 (by have:=hs3 t hG;omega) hbj hl
  .exact hG.lv j hj oc⟩
section
variable{p:Par}{hst:yp0 p}{P:Program}{Post:Value->World->Prop}{Gb:Nat->Prop}{hM:Gb p.Mu}{hW:Gb p.Wg}{hb:∀x,p.Gb x->Gb x}
 {fn:FuncId} {Q:Exit->PSt->Go.Act->World->Prop} {s:PSt} {a:Go.Act} {w:World} {ops:Array Oper} {j:Nat} {rest:List Nat} {o:Oper}
theorem zx0{d:Deferred}{f:Fn}{c:Array Value}(ho:ops[j]?=some o)(hw:Region.wanted o (yielded ops a.tmps)=true)(hrun:∀w1,(execOp a.eval o).run P w1=.ok (.spawn d) w1)(hev:∀w1,(execOp a.eval o).events P w1 #[]=#[])(hd:d.target=.fn f c)
  (hz:s.τ.z=0) (hs:s.τ.s=0) (ha:s.τ.a=1) (hdf:s.τ.d=0) (hk:0<s.τ.k) (Q0:Nat->Bool) (hQ:∀x,Q0 x=true->s.O x)
  (child:∀j n w1,0<j->p.b<=j->j+s.τ.k=p.cap->zay (λx=>s.O x\/p.ro x) w w1->(sys p).JW P j n (fresh (p.K j)) (λx=>Q0 x=true) (born P d) w1)
  (h:∀n' w',zay (λx=>s.O x\/p.ro x) w w'->zbk (jdg p hst P 0 (ztk p P Post Gb hst hM hW hb)) fn ops rest Q ⟨n',{ s.τ with a:=0,k:=s.τ.k-1 },λx=>s.O x/\Q0 x=false⟩ (a.put o.dst undef) w') :
  zbk (jdg p hst P 0 (ztk p P Post Gb hst hM hW hb)) fn ops (j::rest) Q s a w:=by
 intro b k cs hbf hbk hc
 have hl:zar 0 s:=lv0 hz oc
 refine⟨λ_=>?_,λhn=>absurd hl hn⟩
 refine Sys.jt_step rfl rfl (by show ¬s.τ.z=3;rw [hz];decide) λgh w1 he=>.inr (.inr ⟨rfl,?_⟩)
 obtain⟨t,hG⟩:=he.gi
 have hth:gh.th 0=s.τ:=he.th
 have hown:(λx=>gh.bc x=.pri 0\/(gh.bc x=.gua/\gh.h=some 0))=s.O:=he.own
 have hh0:gh.h≠some 0:=λe=>by have h1:=(hG.hd 0).1 e;have h2:=(hG.ow 0 h1).1;rw [hG.t0.1] at h2;cases h2
 have hO:∀x,s.O x↔gh.bc x=.pri 0:=λx=>by
  rw [<-hown];constructor
  .rintro(e|⟨_,e⟩)
   .exact e
   .exact absurd e hh0
  .exact .inl
 have hnk:=hG.nk
 have hb0:=hG.nx
 obtain⟨k1,k2⟩:=z26 hG (by rw [hth];exact hs) (by rw [hth];omega) (by rw [hth];exact hdf) (by rw [hth];exact hk) Q0 (λx hx=>(hO x).1 (hQ x hx))
 have step:=stepG_spawn (main:=true) (b:=b) (k:=k) (cs:=cs) (rest:=rest) (w:=w1) ho hw hbk (hrun w1) hd
 rw [listed_nil (hev w1)] at step
 have hn0:gh.nx≠0:=oc
 have hun:=hG.un gh.nx (kac _)
 have hJ:=λn'=>h n' w1 he.sees b k cs hbf hbk hc
 refine⟨_,_,_,_,step,rfl,k1,k2,⟨?_,rfl,?_⟩,?_⟩
 .show ¬(upd gh.th 0 _ gh.nx).z=3;rw [upd_ne _ _ hn0,hun];exactλe=>by cases e
 .have e1:(sys p).th { gh with th:=upd gh.th 0 { gh.th 0 with a:=(gh.th 0).a-1,k:=(gh.th 0).k-1 },bc:=λx=>if Q0 x then .pri gh.nx else gh.bc x,nx:=gh.nx+1 } gh.nx=fresh (p.K gh.nx):=by
     show upd gh.th 0 _ gh.nx=_;rw [upd_ne _ _ hn0,hun]
  have e2:(sys p).own { gh with th:=upd gh.th 0 { gh.th 0 with a:=(gh.th 0).a-1,k:=(gh.th 0).k-1 },bc:=λx=>if Q0 x then .pri gh.nx else gh.bc x,nx:=gh.nx+1 } gh.nx=λx=>Q0 x=true:=by
   funext x;apply propext;show((if Q0 x then Cls.pri gh.nx else gh.bc x)=.pri gh.nx\/((if Q0 x then Cls.pri gh.nx else gh.bc x)=.gua/\gh.h=some gh.nx))↔_;constructor
   .rintro(e|⟨_,e⟩)
    .split at e
     .assumption
     .have:=hG.pri x _ e;omega
    .have:=(hG.ow _ ((hG.hd _).1 e)).2;omega
   .intro e;rw [if_pos e];exact .inl rfl
  have key:∀n τ O,τ=fresh (p.K gh.nx)->O=(λx=>Q0 x=true)->(sys p).JW P gh.nx n τ O (born P d) w1:=by rintro n _ _ rfl rfl;exact child _ _ _ oc hb0.2.1 (by rw [<-hth];exact hnk) he.sees
  exact key _ _ _ e1 e2
 .have e1:(sys p).th { gh with th:=upd gh.th 0 { gh.th 0 with a:=(gh.th 0).a-1,k:=(gh.th 0).k-1 },bc:=λx=>if Q0 x then .pri gh.nx else gh.bc x,nx:=gh.nx+1 } 0={ s.τ with a:=0,k:=s.τ.k-1 }:=by
     show upd gh.th 0 { gh.th 0 with a:=(gh.th 0).a-1,k:=(gh.th 0).k-1 } 0=_;rw [zjg,hth,ha]
  have e2:(sys p).own { gh with th:=upd gh.th 0 { gh.th 0 with a:=(gh.th 0).a-1,k:=(gh.th 0).k-1 },bc:=λx=>if Q0 x then .pri gh.nx else gh.bc x,nx:=gh.nx+1 } 0=λx=>s.O x/\Q0 x=false:=by
   funext x;apply propext;show((if Q0 x then Cls.pri gh.nx else gh.bc x)=.pri 0\/((if Q0 x then Cls.pri gh.nx else gh.bc x)=.gua/\gh.h=some 0))↔_;rw [hO];cases hq:Q0 x with
   | false=>simp [hh0]
   | true=>simp;omega
  have key:∀n τ O,τ=({ s.τ with a:=0,k:=s.τ.k-1 }:Thr)->O=(λx=>s.O x/\Q0 x=false)->∃tr,(sys p).JT P 0 (ztk p P Post Gb hst hM hW hb).Ch (ztk p P Post Gb hst hM hW hb).Lf tr n τ O (G (b.at (a.put o.dst undef) (.inRegion ops rest::k)) cs) w1:=by rintro n _ _ rfl rfl;exact zt6 (hJ n)
  exact key _ _ _ e1 e2
end
structure Pre where
 Mu:Nat
 Wg:Nat
 tM:TypeId
 tW:TypeId
 K:Nat
 ro:Nat->Prop
 gua:Nat->Prop
 Gb:Nat->Prop
 Gd:Nat->(Nat->Prop)->(Nat->Nat)->World->Prop
 F:Nat->Nat->Nat
 hst:∀b (G:Nat->Prop) c w w',(∀x,G x->w'.heap[x]?=w.heap[x]?)->Gd b G c w->Gd b G c w'
def Pre.par(π:Pre)(b:Nat):Par:={ Mu:=π.Mu,Wg:=π.Wg,tM:=π.tM,tW:=π.tW,b,cap:=b+π.K,K:=λ_=>1,ro:=π.ro,Gb:=π.Gb,Gd:=π.Gd b,F:=π.F b }
def zej(b K:Nat)(j:Nat):Thr:=if j=0 then ⟨.out,K,0,0,false,0,0,0,λ_=>0⟩ else if j<b then { fresh 1 with z:=3 } else fresh 1
open Classical in
noncomputable def Pre.bc(π:Pre)(n:Nat)(x:Nat):Cls:=if x=π.Mu\/x=π.Wg then .shr else if π.ro x then .ro else if π.gua x then .gua else if π.Gb x\/n<=x then .old else .pri 0
noncomputable def Pre.pg(π:Pre)(b n:Nat):PG:={ th:=zej b π.K,bc:=π.bc n,h:=none,wd:=⟨false,false,false,0,0⟩,v:=0,ww:=false,wT:=0,nx:=b }
structure Pre.Ok(π:Pre)(B:Nat)(w:World):Prop where
 mu:MuAt π.tM π.Mu w 0 0
 wg:ConcR.WgAt π.tW π.Wg w 0 0
 Bm:B<=π.Mu
 Bw:B<=π.Wg
 ne:π.Mu≠π.Wg
 ro:∀x,π.ro x->x<w.heap.size/\x≠π.Mu/\x≠π.Wg/\¬π.Gb x
 gua:∀x,π.gua x->x<w.heap.size/\x≠π.Mu/\x≠π.Wg/\¬π.Gb x/\¬π.ro x
 gb:∀x,π.Gb x->x≠π.Mu/\x≠π.Wg
 gd:∀b,π.Gd b π.gua (λ_=>0) w
section
variable{π:Pre}{B:Nat}{w:World}
theorem Pre.bc_shr(π:Pre)(n x:Nat):π.bc n x=.shr↔x=π.Mu\/x=π.Wg:=by
 unfold Pre.bc;by_cases h:x=π.Mu\/x=π.Wg
 .simp [h]
 .rw [if_neg h];constructor
  .intro e;split at e
   .cases e
   .split at e
    .cases e
    .split at e<;>cases e
  .intro e;exact absurd e h
theorem Pre.bc_ro(h:π.Ok B w)(n x:Nat):π.bc n x=.ro↔π.ro x:=by
 unfold Pre.bc;by_cases hs:x=π.Mu\/x=π.Wg
 .rw [if_pos hs];constructor
  .intro e;cases e
  .intro e;have:=h.ro x e;rcases hs with hs|hs<;>simp_all
 .rw [if_neg hs];constructor
  .intro e;split at e
   .assumption
   .split at e
    .cases e
    .split at e<;>cases e
  .intro e;rw [if_pos e]
theorem Pre.bc_gua(h:π.Ok B w)(n x:Nat):π.bc n x=.gua↔π.gua x:=by
 unfold Pre.bc;by_cases hs:x=π.Mu\/x=π.Wg
 .rw [if_pos hs];constructor
  .intro e;cases e
  .intro e;have:=h.gua x e;rcases hs with hs|hs<;>simp_all
 .rw [if_neg hs];by_cases hr:π.ro x
  .rw [if_pos hr];constructor
   .intro e;cases e
   .intro e;exact absurd hr (h.gua x e).2.2.2.2
  .rw [if_neg hr];constructor
   .intro e;split at e
    .assumption
    .split at e<;>cases e
   .intro e;rw [if_pos e]
theorem Pre.bc_old(n x:Nat)(h:π.bc n x=.old):π.Gb x\/n<=x:=by
 unfold Pre.bc at h;split at h
 .cases h
 .split at h
  .cases h
  .split at h
   .cases h
   .split at h
    .assumption
    .cases h
theorem Pre.bc_gb(h:π.Ok B w)(n x:Nat)(hx:π.Gb x):π.bc n x=.old:=by have h1:=h.gb x hx;unfold Pre.bc;rw [if_neg (by simp [h1]),if_neg (λe=>(h.ro x e).2.2.2 hx),if_neg (λe=>(h.gua x e).2.2.2.1 hx),if_pos (.inl hx)]
theorem Pre.bc_pri(n x j:Nat)(h:π.bc n x=.pri j):j=0:=by
 unfold Pre.bc at h;split at h
 .cases h
 .split at h
  .cases h
  .split at h
   .cases h
   .split at h
    .cases h
    .cases h;rfl
theorem Pre.bc_sz(h:π.Ok B w)(x:Nat)(hx:π.bc w.heap.size x≠.old):x<w.heap.size:=by
 refine Nat.lt_of_not_le λhle=>hx ?_;have hm:π.Mu<w.heap.size:=by have:=h.mu;unfold MuAt at this;exact(kad.1 this).1
 have hw:π.Wg<w.heap.size:=by have:=h.wg;unfold ConcR.WgAt at this;exact(kad.1 this).1
 unfold Pre.bc;rw [if_neg oc,if_neg (λe=>by have:=(h.ro x e).1;omega),if_neg (λe=>by have:=(h.gua x e).1;omega),if_pos (.inr hle)]
theorem zy7(b K j:Nat):(zej b K j).r=.out:=by
 unfold zej;split
 .rfl
 .split<;>rfl
theorem zte(b K j:Nat):(zej b K j).hd=false:=by
 unfold zej;split
 .rfl
 .split<;>rfl
theorem yc3(b K j:Nat):(zej b K j).c=0:=by
 unfold zej;split
 .rfl
 .split<;>rfl
theorem zlv(b K j:Nat):(zej b K j).z=if j≠0/\j<b then 3 else 0:=by
 unfold zej;by_cases h0:j=0
 .simp [h0]
 .by_cases hb:j<b<;>simp [h0,hb,fresh]
theorem z7i(b K j:Nat):(zej b K j).s=0:=by
 unfold zej;split
 .rfl
 .split<;>rfl
theorem znu{n:Nat}{f:Nat->Nat}(h:∀j,j<n->f j=0):sumTo n f=0:=by
 induction n with
 | zero=>rfl
 | succ n ih=>simp only [sumTo];rw [ih λj hj=>h j oc,h n oc]
theorem ybd{N:Nat}{R:Nat->zif}(h:∀j,R j=.out){r:zif}(hr:r≠.out):cnt N R r=0:=znu λj _=>by rw [h j,if_neg (Ne.symm hr)]
theorem Pre.gi(h:π.Ok B w)(hBw:B<=w.heap.size){t:Trace}{b:Nat}(hb:0<b)(hP:Past (zja π.Gb) B t)(hN:∀op∈t,op.g<b)(hab:∀j,b<=j->Deaf t j=0):GI (π.par b) (π.pg b w.heap.size) w t:=by
 have hcz:∀f:Nat->Bool,zcv b b (zej b π.K) f=0:=λf=>znu λj hj=>by rw [if_neg oc]
 have hwg:ConcR.WgAt π.tW π.Wg w ((0*4294967296+false.toNat:Nat):Int) ((0:Nat):Int):=by
  have e:((0*4294967296+false.toNat:Nat):Int)=0:=od
  rw [e];exact h.wg
 refine { mu:=h.mu,wg:=hwg,li:=?_,wi:=?_,tr:=?_,low:=λop hop=>MemAct.low_mono hBw (hP.seen op hop),gs:=hN,deaf:=λj _ hj=>?_,above:=hab,gd:=λ_=>?_,hd:=λj=>?_,ow:=λj hj=>?_,cc:=λj q hj=>?_,shr:=λx=>?_,ne:=h.ne,ro:=λx=>?_,
          old:=λx hx e=>?_,sz:=λx hx=>?_,pri:=λx j e=>?_,un:=λj hj=>?_,lv:=λj h0 hj=>?_,z1:=λj _ _=>zy7 b π.K j,zs:=λj _=>z7i b π.K j,z5:=λj=>?_,t0:=⟨zy7 b π.K 0,by show(zej b π.K 0).z=0;rw [zlv];simp⟩,nx:=⟨hb,kac _,Nat.le_add_right _ _⟩,nk:=?_,fc:=λj hj hz=>?_,past:=λe=>?_ }
 .have e:∀r:zif,r≠.out->cnt (b+π.K) (λj=>(zej b π.K j).r) r=0:=λr hr=>ybd (λj=>zy7 b π.K j) hr;show zuy _ (cnt (b+π.K) λj=>(zej b π.K j).r);refine⟨by rw [e _ oe];rfl,λ_=>?_,λhS=>(by cases hS),λ_ _ _ hc=>absurd hc (kdz 0)⟩;rw [e _ oe,e _ oe,e _ oe,e _ oe,e _ oe,e _ oe];exact⟨rfl,rfl,rfl,rfl⟩
 .have z0:(zej b π.K 0).a=0:=rfl;have s0:(zej b π.K 0).s=0:=rfl;refine⟨?_,λ_=>⟨rfl,rfl,hcz _,hcz _⟩,λe=>?_,λe=>?_,?_⟩
  .show 0=zcv b b (zej b π.K) _+(zej b π.K 0).a;rw [hcz,z0]
  .exact absurd (s0.symm.trans e) oe
  .have e':2<=(zej b π.K 0).s:=e;rw [s0] at e';omega
  .show(zej b π.K 0).a<=1;rw [z0];omega
 .have hbeg:=TR.begin (a:=muA π.Mu) (b:=⟨π.Wg,0,none⟩) hP h.Bm h.Bw (zid (π.bc w.heap.size)) (λi x hx=>?_)
  .refine TR.congr (hbeg.undone (dn':=zkl b (zej b π.K)) λg hg=>hg.1) (λg=>?_) (λg=>Iff.rfl) λ_=>rfl;show zvk b b g↔g=0;unfold zvk;constructor
   .rintro(e|e)
    .exact e
    .omega
   .exact .inl
  .have hl:∀k,(x.loc=.obj k\/∃ad:Addr,x.loc=.cell ad/\ad.block=k)->k<B:=λk hk=>by
      unfold touchAt Trace.act? at hx;cases hop:t[i]? with
      | none=>rw [hop] at hx;cases hx
      | some op =>
        rw [hop] at hx;have hlo:=zq3 (hP.seen op (kbl hop)) (x:=x) hx;rcases hk with hk|⟨ad,hk,rfl⟩
        .rw [hk] at hlo;exact hlo
        .rw [hk] at hlo;exact hlo
   have four:∀k,k<B->(π.bc w.heap.size k=.pri 0\/π.bc w.heap.size k=.gua\/π.bc w.heap.size k=.ro\/π.bc w.heap.size k=.old):=λk hk=>by
    cases e:π.bc w.heap.size k with
    | pri j=>rw [Pre.bc_pri _ _ _ e];exact .inl rfl
    | gua=>exact .inr (.inl rfl)
    | ro=>exact .inr (.inr (.inl rfl))
    | old=>exact .inr (.inr (.inr rfl))
    | shr =>
      have h1:=h.Bm;have h2:=h.Bw;rcases(Pre.bc_shr π _ _).1 e with e|e<;>omega
   cases hloc:x.loc with
   | cell ad =>have hk:=hl ad.block (.inr ⟨ad,hloc,rfl⟩);exact⟨λhs=>hs.elim (λhs=>Pre.bc_gb h _ _ hs) λhs=>(by cases hs),four _ hk⟩
   | obj k =>have hk:=hl k (.inl hloc);exact⟨λhs=>hs.elim (λhs=>Pre.bc_gb h _ _ hs) λhs=>(by cases hs),four _ hk⟩
   | _=>exact⟨λ_=>rfl,.inr (.inr (.inr rfl))⟩
 .rcases hj with rfl|hj
  .exact hP.hears
  .by_cases h0:j=0
   .subst h0;exact hP.hears
   .have hz:(zej b π.K j).z≠3:=hj;rw [zlv] at hz;by_cases hjb:j<b
    .simp [h0,hjb] at hz
    .have e:(zej b π.K j).d=0:=by unfold zej;simp [h0,hjb,fresh]
     show Deaf t j=(zej b π.K j).d;rw [e];exact hab j oc
 .have e:(λx=>π.bc w.heap.size x=.gua)=π.gua:=by funext x;exact propext (Pre.bc_gua h _ _)
  have e2:(λj=>(zej b π.K j).c)=λ_=>0:=by funext j;exact yc3 b π.K j
  show π.Gd b (λx=>π.bc w.heap.size x=.gua) (λj=>(zej b π.K j).c) w;rw [e,e2];exact h.gd b
 .show(none:Option Nat)=some j↔(zej b π.K j).hd=true;rw [zte];simp
 .have hj':(zej b π.K j).hd=true:=hj;rw [zte] at hj';cases hj'
 .have hj':(zej b π.K j).hd=true:=hj;rw [zte] at hj';cases hj'
 .exact Pre.bc_shr π _ x
 .exact Pre.bc_ro h _ x
 .rcases Pre.bc_old _ _ e with e|e
  .exact e
  .omega
 .exact Pre.bc_sz h x hx
 .rw [Pre.bc_pri _ _ _ e];exact hb
 .have hj':b<=j:=hj;show zej b π.K j=fresh 1;unfold zej;rw [if_neg oc,if_neg oc]
 .have hj':j<b:=hj;show(zej b π.K j).z=3;rw [zlv,if_pos ⟨oc,hj'⟩]
 .show(zej b π.K j).z<5;rw [zlv];split<;>omega
 .show b+(zej b π.K 0).k=b+π.K;rfl
 .have hz':1<=(zej b π.K j).z:=hz;have hj':b<=j:=hj;rw [zlv,if_neg oc] at hz';omega
 .have e':3<=(zej b π.K 0).s:=e;have s0:(zej b π.K 0).s=0:=rfl;rw [s0] at e';omega
end
section
variable{π:Pre}{P:Program}{Post:Value->World->Prop}{fn:FuncId}{X Y:Code}{Q:Exit->FSt->Go.Act->World->Prop}{s:FSt}{a:Go.Act}{w:World}
theorem zxv(h:π.Ok s.B w)(hBw:s.B<=w.heap.size)(hGb:s.Gb=π.Gb){Gb2:Nat->Prop}(hM:Gb2 π.Mu)(hW:Gb2 π.Wg)(hb:∀x,π.Gb x->Gb2 x)(g:Goroutine)(hrun:g.status=.running)
  (walk:∀b,0<b->∀n,(jdg (π.par b) (π.hst b) P 0 (ztk (π.par b) P Post Gb2 (π.hst b) hM hW hb)).J ⟨n,zej b π.K 0,λx=>π.bc w.heap.size x=.pri 0⟩ g w):(jdgF P Post).J s g w:=by
 intro d0 gs sl t q h0 hL hP hN
 have hsz:0<gs.size:=(kad.1 h0).1
 rw [hGb] at hP
 have hgi:=Pre.gi h hBw hsz hP hN hL.above
 have hown:(sys (π.par gs.size)).own (π.pg gs.size w.heap.size) 0=λx=>π.bc w.heap.size x=.pri 0:=by
  funext x;apply propext;constructor
  .rintro(e|⟨_,e⟩)
   .exact e
   .cases e
  .exact .inl
 have key:=walk gs.size hsz ((sys (π.par gs.size)).now (π.pg gs.size w.heap.size) 0)
 obtain⟨tr,hJ⟩:=key.1 ⟨by show(zej gs.size π.K 0).z≠3;rw [zlv];simp,λ_=>by show(zej gs.size π.K 0).s<3;rw [z7i];omega⟩
 have hov:∀(j:Nat) (x:Goroutine),0<j->gs[j]?=some x->(zej gs.size π.K j).z=3:=λj x hj hx=>by rw [zlv,if_pos ⟨oc,(kad.1 hx).1⟩]
 obtain⟨φ,hMI,_⟩:=Sys.mi_intro (P:=P) (Post:=Post) (Gb:=Gb2) (gs:=gs) (w:=w.at d0) (gh:=π.pg gs.size w.heap.size) (t:=t) (T0:=tr) (Ts:=λ_=>.leaf) (λ_ _=>True) ((zzb (π.par gs.size) (π.hst gs.size)).at_ (π.pg gs.size w.heap.size) w t d0 hgi) rfl
  ⟨1,_,w,_,h0,hrun,.inl ⟨rfl,rfl⟩,by rw [hown];exact hJ,(zay.refl _ _).at d0,λ_=>rfl,trivial⟩ (λj x hj hx=>⟨q j*((sys (π.par gs.size)).cap+1),.inl ⟨hov j x hj hx,q j,hL.old j x hj hx,rfl⟩,trivial⟩)
 exact Sys.phase_run (zzb (π.par gs.size) (π.hst gs.size)) (tr,λ_=>.leaf,sumTo gs.size φ) gs (w.at d0) sl _ t φ rfl hMI
def z66(π:Pre)(P:Program)(Post:Value->World->Prop)(Gb2:Nat->Prop)(fn:FuncId)(Y:Code)(Q:Exit->FSt->Go.Act->World->Prop)(b:Nat)(e:Exit)(s':PSt)(a':Go.Act)(w':World):Prop :=
 e=.normal/\s'.τ.s=3/\∀gh w1 t,GI (π.par b) gh w1 t->gh.th 0=s'.τ->(sys (π.par b)).own gh 0=s'.O->zay (λx=>s'.O x\/π.ro x) w' w1->WpJ (jdgF P Post) fn Y Q ⟨Gb2,w1.heap.size⟩ a' w1
theorem zyz{A B:Code}(h:π.Ok s.B w)(hBw:s.B<=w.heap.size)(hGb:s.Gb=π.Gb){Gb2:Nat->Prop}(hM:Gb2 π.Mu)(hW:Gb2 π.Wg)(hb:∀x,π.Gb x->Gb2 x)
  (walk:∀b,0<b->∀n,WpJ (jdg (π.par b) (π.hst b) P 0 (ztk (π.par b) P Post Gb2 (π.hst b) hM hW hb)) fn A (λe s' a' w'=>e=.normal/\WpJ (jdg (π.par b) (π.hst b) P 0 (ztk (π.par b) P Post Gb2 (π.hst b) hM hW hb)) fn B (z66 π P Post Gb2 fn Y Q b) s' a' w')
    ⟨n,zej b π.K 0,λx=>π.bc w.heap.size x=.pri 0⟩ a w) :
  WpJ (jdgF P Post) fn (.seq A (.seq B Y)) Q s a w:=by
 intro bf k cs hbf hbk hQ
 refine Jdg.ctl (D:=jdgF P Post) rfl rfl rfl (λ_=>stepG_seq) ?_
 refine zxv h hBw hGb hM hW hb _ rfl λb hb0 n=>walk b hb0 n bf (.code (.seq B Y)::k) cs hbf hbk ?_
 rintro e s' a' w' ⟨rfl,hB⟩
 refine Jdg.ctl rfl rfl rfl (λ_=>stepG_seq) (hB bf (.code Y::k) cs hbf hbk ?_)
 rintro e s' a' w' ⟨rfl,h3,hY⟩
 refine⟨λhl=>absurd (hl.2 rfl) oc,λ_=>⟨rfl,λgh w1 he=>?_⟩⟩
 obtain⟨t',hG⟩:=he.gi
 exact hY gh w1 t' hG he.th he.own he.sees bf k cs hbf hbk hQ w1.drawn
end
end Go.Kp
namespace Go.Kp
open Go Go.Conc Go.ConcM
def zb7(P:Program):Frame:={ (default:Frame) with fn:=P.funcs.size,defers:=[],mode:=.panicking [goexitEntry] }
section
variable{P:Program}{f:FuncId}{fn:Func}{c:Code}{cap:Array Value}
theorem zxq (main : Bool) (hf : P.funcs[f]? = some fn) (hname : (fn.name == "runtime.NumGoroutine") = false) (hb : fn.body = some c) (w : World) :
  stepG P main (born P { target:=.fn (.func f) cap,args:=#[] }) w=.go (G ((baseD f).at { tmps:=cap++Array.replicate (fn.ntmps-cap.size) undef,defers:=[] } [.code c]) [zb7 P]) w #[]:=by
 have h1 : ¬ fn.name = "runtime.NumGoroutine" := by simpa using hname
 rw [<-enter_atD cap hf hb]
 simp [born,G,stepG,unwind,callDeferred,invoke,callFunc,hf,h1,hb,GStep.after,seen_none,zb7]
theorem zxo(b:Frame)(a:Act)(todo:List Item)(hk:b.kind=.deferred)(hd:a.defers=[])(hf:P.funcs[b.fn]?=some fn)(hr:fn.results=#[])(w:World) :
  stepG P false (G { b.at a todo with mode:=.returning } [zb7 P]) w=.go (G (zb7 P) []) w #[]:=by
 simp [G,stepG,unwind,doReturn,Frame.at,hk,hd,hf,results_none hr,events_results_none hr,seen,GStep.after,zb7,goexitEntry]
theorem zxp(w:World):stepG P false (G (zb7 P) []) w=.go { G (zb7 P) [] with status:=.finished } w #[]:=by
 have ht:(default:Frame).todo=[]:=rfl;have:(zb7 P).catches P=false:=by simp [Frame.catches,zb7,ht]
 simp [G,stepG,unwind,zb7,goexitEntry] at this |-;simp [this]
end
section
variable{p:Par}{hst:yp0 p}{P:Program}{i:Nat}{hi:0<i}
theorem yah{f:FuncId}{fn:Func}{cap:Array Value}(hf:P.funcs[f]?=some fn)(hr:fn.results=#[])(n:Nat×(sys p).Ob)(τ:Thr)(O:Nat->Prop)(w:World)(hz:τ.z≠3)
  (h:zhv (jdg p hst P i (zkq p P i hi)) f cap ⟨n,τ,O⟩ w (λs' _ _=>s'.τ.z=3/\s'.τ.d=0)):(sys p).JW P i n τ O (born P { target:=.fn (.func f) cap,args:=#[] }) w:=by
 have key:(jdg p hst P i (zkq p P i hi)).J ⟨n,τ,O⟩ (born P { target:=.fn (.func f) cap,args:=#[] }) w:=by
  obtain⟨fn',c,hf',hname,hb,hwp⟩:=h;have e:fn'=fn:=kaw (hf'.symm.trans hf);subst e;have gone:∀(s':PSt) (w':World),s'.τ.z=3->s'.τ.d=0->(jdg p hst P i (zkq p P i hi)).J s' (G (zb7 P) []) w':=λs' w' h3 hd =>
   ⟨λhl=>absurd h3 hl.1,λ_=>⟨1,.inr ⟨rfl,_,#[],od,λw=>zxp w,rfl,by rw [hd];rfl⟩⟩⟩
  have hm:(i == 0)=false:=by simp;omega
  refine Jdg.ctl (D:=jdg p hst P i (zkq p P i hi)) rfl rfl rfl (λw1=>zxq _ hf hname hb w1) ?_;have out:∀(s':PSt) (a':Go.Act) (w':World),z3o (jdg p hst P i (zkq p P i hi)) f (λs a w=>∃v,ResultsC P fn' a.tmps v/\s.τ.z=3/\s.τ.d=0) s' a' w'->
    ∀todo,(jdg p hst P i (zkq p P i hi)).J s' (G { (baseD f).at a' todo with mode:=.returning } [zb7 P]) w':=by
   intro s' a' w' ho
   refine ho (baseD f) _ rfl ?_
   rintro s1 a1 w1 ⟨v,_,h3,h4⟩ hd1 todo
   refine Jdg.ctl (D:=jdg p hst P i (zkq p P i hi)) rfl rfl rfl (λw2=>?_) (gone s1 w1 h3 h4)
   show stepG P (i == 0) _ w2=_
   rw [hm]
   exact zxo (baseD f) a1 todo rfl hd1 hf hr w2
  refine hwp (baseD f) [] _ rfl (by simp [baseD]) λe s' a' w' q=>?_;cases e with
  | normal=>exact Jdg.ctl rfl rfl rfl (λ_=>stepG_end) (out s' a' w' q [])
  | ret=>exactλtodo'=>out s' a' w' q todo'
  | exit id=>exact q.elim
  | goto l=>exact q.elim
  | panic ch=>exact q.elim
  | outgrown=>exact q.elim
 exact key.1 ⟨hz,λh0=>oc⟩
end
end Go.Kp
namespace Go.Kp
open Go Go.Conc Go.Proofs
theorem ze2:zei Tryz.prog 126 Tryz.f126 (λ_=>do mark .disable;pure Extern.Race.none_):=⟨Tryz.func126,by kernel_rfl,by kernel_rfl,by kernel_rfl,by kernel_rfl⟩
theorem zlq:zei Tryz.prog 127 Tryz.f127 (λ_=>do mark .enable;pure Extern.Race.none_):=⟨Tryz.func127,by kernel_rfl,by kernel_rfl,by kernel_rfl,by kernel_rfl⟩
theorem zhw:zei Tryz.prog 141 Tryz.f141 (Extern.Race.marked .acquire):=⟨Tryz.func141,by kernel_rfl,by kernel_rfl,by kernel_rfl,by kernel_rfl⟩
theorem znm:zei Tryz.prog 125 Tryz.f125 (Extern.Race.marked .releaseMerge):=⟨Tryz.func125,by kernel_rfl,by kernel_rfl,by kernel_rfl,by kernel_rfl⟩
theorem yfp:zei Tryz.prog 133 Tryz.f133 (Extern.Race.marked .read):=⟨Tryz.func133,by kernel_rfl,by kernel_rfl,by kernel_rfl,by kernel_rfl⟩
theorem zig:zei Tryz.prog 144 Tryz.f144 (Extern.Race.marked .write):=⟨Tryz.func144,by kernel_rfl,by kernel_rfl,by kernel_rfl,by kernel_rfl⟩
theorem z3x:zei Tryz.prog 128 Tryz.f128 (λ_=>pure (.bool false)):=⟨Tryz.func128,by kernel_rfl,by kernel_rfl,by kernel_rfl,by kernel_rfl⟩
theorem zcw:zei Tryz.prog 166 Tryz.f166 (Extern.Atomic.casT (.int .i32)):=⟨Tryz.func166,by kernel_rfl,by kernel_rfl,by kernel_rfl,by kernel_rfl⟩
theorem zls:zei Tryz.prog 168 Tryz.f168 (Extern.Atomic.update (Op.intArith .add) .i32 true):=⟨Tryz.func168,by kernel_rfl,by kernel_rfl,by kernel_rfl,by kernel_rfl⟩
theorem zlr:zei Tryz.prog 170 Tryz.f170 (Extern.Atomic.casT (.int .u64)):=⟨Tryz.func170,by kernel_rfl,by kernel_rfl,by kernel_rfl,by kernel_rfl⟩
theorem zev:zei Tryz.prog 163 Tryz.f163 (Extern.Atomic.update (Op.intArith .add) .u64 true):=⟨Tryz.func163,by kernel_rfl,by kernel_rfl,by kernel_rfl,by kernel_rfl⟩
theorem ycn:zei Tryz.prog 185 Tryz.f185 Extern.Sync.canSpin:=⟨Tryz.func185,by kernel_rfl,by kernel_rfl,by kernel_rfl,by kernel_rfl⟩
theorem yfn:zei Tryz.prog 186 Tryz.f186 (λ_=>pure Extern.Sync.none_):=⟨Tryz.func186,by kernel_rfl,by kernel_rfl,by kernel_rfl,by kernel_rfl⟩
theorem yfl:zei Tryz.prog 188 Tryz.f188 Extern.OsHooks.nano:=⟨Tryz.func188,by kernel_rfl,by kernel_rfl,by kernel_rfl,by kernel_rfl⟩
theorem yfm:zei Tryz.prog 189 Tryz.f189 Extern.Sync.semacquire:=⟨Tryz.func189,by kernel_rfl,by kernel_rfl,by kernel_rfl,by kernel_rfl⟩
theorem zdl:zei Tryz.prog 191 Tryz.f191 Extern.Sync.semrelease:=⟨Tryz.func191,by kernel_rfl,by kernel_rfl,by kernel_rfl,by kernel_rfl⟩
theorem zlp:zei Tryz.prog 145 Tryz.f145 Extern.Sync.semacquire:=⟨Tryz.func145,by kernel_rfl,by kernel_rfl,by kernel_rfl,by kernel_rfl⟩
theorem zlo:zei Tryz.prog 137 Tryz.f137 Extern.Sync.semrelease:=⟨Tryz.func137,by kernel_rfl,by kernel_rfl,by kernel_rfl,by kernel_rfl⟩
theorem zd7:zei Tryz.prog 164 Tryz.f164 (Extern.Atomic.loadT (.int .u64)):=⟨Tryz.func164,by kernel_rfl,by kernel_rfl,by kernel_rfl,by kernel_rfl⟩
theorem zqx:zei Tryz.prog 165 Tryz.f165 Extern.Atomic.storeT:=⟨Tryz.func165,by kernel_rfl,by kernel_rfl,by kernel_rfl,by kernel_rfl⟩
theorem z7e{w:World}{ad:Addr}{v:Value}(hc:w.cell? ad=some v):(convert 207 173 (.pointer (some ad))).run Tryz.prog w=.ok (.pointer (some ad)) w :=
 run_convert_to_unsafe Tryz.underlying207 Tryz.underlying173 ot hc
theorem zq0{w:World}{ad:Addr}{v:Value}(hc:w.cell? ad=some v)(es:Array Event):(convert 207 173 (.pointer (some ad))).events Tryz.prog w es=es :=
 events_convert_to_unsafe Tryz.underlying207 Tryz.underlying173 ot hc es
theorem zy4{w:World}{ad:Addr}{v:Value}(hc:w.cell? ad=some v):(convert 171 173 (.pointer (some ad))).run Tryz.prog w=.ok (.pointer (some ad)) w :=
 run_convert_to_unsafe Tryz.underlying171 Tryz.underlying173 ot hc
theorem zlu{w:World}{ad:Addr}{v:Value}(hc:w.cell? ad=some v)(es:Array Event):(convert 171 173 (.pointer (some ad))).events Tryz.prog w es=es :=
 events_convert_to_unsafe Tryz.underlying171 Tryz.underlying173 ot hc es
theorem z9d{w:World}{ad:Addr}{v:Value}(hc:w.cell? ad=some v):(convert 179 173 (.pointer (some ad))).run Tryz.prog w=.ok (.pointer (some ad)) w :=
 run_convert_to_unsafe Tryz.underlying179 Tryz.underlying173 ot hc
theorem zxm{w:World}{ad:Addr}{v:Value}(hc:w.cell? ad=some v)(es:Array Event):(convert 179 173 (.pointer (some ad))).events Tryz.prog w es=es :=
 events_convert_to_unsafe Tryz.underlying179 Tryz.underlying173 ot hc es
theorem z4w:(Tryz.prog.funcs[140]?).any (·.norace)=true:=by rw [Tryz.func140];rfl
theorem ycc:(Tryz.prog.funcs[167]?).any (·.norace)=true:=by rw [Tryz.func167];rfl
theorem zrl:(Tryz.prog.funcs[169]?).any (·.norace)=true:=by rw [Tryz.func169];rfl
end Go.Kp
namespace Go.Kp
open Go
structure Hid(q:Prop):Prop where
 out:q
theorem zb5(n:Int)(h₀:0<=n)(h₁:n<2 ^ 31):IntKind.i32.wrap n=n:=by
 unfold IntKind.wrap;have e1:IntKind.i32.bits=32:=rfl;have e2:IntKind.i32.signed=true:=rfl;simp only [e1,e2];have:n % (2 ^ 32:Int)=n:=Int.emod_eq_of_lt h₀ oc;rw [this];have h3:¬(n >= (2:Int) ^ (32-1)):=oc
 simp;intro h;omega
theorem add8(k c:Nat)(hk:k<8):k+8*c=c <<< 3 ||| k:=by rw [<-Nat.shiftLeft_add_eq_or_of_lt (by omega:k<2 ^ 3),Nat.shiftLeft_eq];omega
theorem and8(k c m:Nat)(_hk:k<8)(hm:m<8):(k+8*c)&&& m=k&&& m:=by
 have e:m=7&&& m:=by
  have:m=0\/m=1\/m=2\/m=3\/m=4\/m=5\/m=6\/m=7:=oc
  rcases this with rfl|rfl|rfl|rfl|rfl|rfl|rfl|rfl<;>decide
 have e7:(7:Nat)=2 ^ 3-1:=oe
 rw [e,<-Nat.and_assoc,<-Nat.and_assoc,e7,Nat.and_two_pow_sub_one_eq_mod,Nat.and_two_pow_sub_one_eq_mod];have:(k+8*c) % 2 ^ 3=k % 2 ^ 3:=oc
 rw [this]
theorem or8(k c m:Nat)(hk:k<8)(hm:m<8):(k+8*c) ||| m=(k ||| m)+8*c:=by
 have h:k ||| m<8:=Nat.or_lt_two_pow (n:=3) hk hm
 rw [add8 k c hk,add8 _ c h,Nat.or_assoc]
theorem Wd.lo(x:Wd):∃k,k<8/\k=x.L.toNat+2*x.W.toNat+4*x.S.toNat/\x.word=k+8*x.c:=by refine⟨_,?_,rfl,rfl⟩;cases x.L<;>cases x.W<;>cases x.S<;>decide
theorem zns(x:Wd)(hx:x.word<2147483648)(m:Nat)(hm:m<8):bits .and .i32 (x.word:Int) (m:Int)=(((x.L.toNat+2*x.W.toNat+4*x.S.toNat)&&& m:Nat):Int):=by obtain⟨k,h1,h2,h3⟩:=x.lo;have h:=(bits_nat .i32 31 oe zb5 x.word m oc oc).1;rw [h,h3,and8 k x.c m h1 hm,h2]
theorem z88(x:Wd)(hx:x.word<2147483648)(m:Nat)(hm:m<8):bits .or .i32 (x.word:Int) (m:Int)=((((x.L.toNat+2*x.W.toNat+4*x.S.toNat) ||| m)+8*x.c:Nat):Int):=by obtain⟨k,h1,h2,h3⟩:=x.lo;have h:=(bits_nat .i32 31 oe zb5 x.word m oc oc).2;rw [h,h3,or8 k x.c m h1 hm,h2]
theorem z9b(x:Wd)(hx:x.word<2147483648):bits .and .i32 (x.word:Int) 1=(x.L.toNat:Int):=by rw [show(1:Int)=((1:Nat):Int) from rfl,zns x hx 1 oe];cases x.L<;>cases x.W<;>cases x.S<;>rfl
theorem zy1(x:Wd)(hx:x.word<2147483648):bits .and .i32 (x.word:Int) 2=(2*x.W.toNat:Int):=by rw [show(2:Int)=((2:Nat):Int) from rfl,zns x hx 2 oe];cases x.L<;>cases x.W<;>cases x.S<;>rfl
theorem yfw(x:Wd)(hx:x.word<2147483648):bits .and .i32 (x.word:Int) 3=(x.L.toNat+2*x.W.toNat:Int):=by rw [show(3:Int)=((3:Nat):Int) from rfl,zns x hx 3 oe];cases x.L<;>cases x.W<;>cases x.S<;>rfl
theorem z9a(x:Wd)(hx:x.word<2147483648):bits .and .i32 (x.word:Int) 4=(4*x.S.toNat:Int):=by rw [show(4:Int)=((4:Nat):Int) from rfl,zns x hx 4 oe];cases x.L<;>cases x.W<;>cases x.S<;>rfl
theorem yfo(x:Wd)(hx:x.word<2147483648):bits .and .i32 (x.word:Int) 5=(x.L.toNat+4*x.S.toNat:Int):=by rw [show(5:Int)=((5:Nat):Int) from rfl,zns x hx 5 oe];cases x.L<;>cases x.W<;>cases x.S<;>rfl
theorem z89(x:Wd)(hx:x.word<2147483648):bits .and .i32 (x.word:Int) 7=(x.L.toNat+2*x.W.toNat+4*x.S.toNat:Int):=by rw [show(7:Int)=((7:Nat):Int) from rfl,zns x hx 7 oe];cases x.L<;>cases x.W<;>cases x.S<;>rfl
theorem yfz(x:Wd)(hx:x.word<2147483648):bits .or .i32 (x.word:Int) 1=(({ x with L:=true }:Wd).word:Int):=by rw [show(1:Int)=((1:Nat):Int) from rfl,z88 x hx 1 oe];cases hL:x.L<;>cases hW:x.W<;>cases hS:x.S<;>simp [Wd.word]
theorem z7c(x:Wd)(hx:x.word<2147483648):bits .or .i32 (x.word:Int) 2=(({ x with W:=true }:Wd).word:Int):=by rw [show(2:Int)=((2:Nat):Int) from rfl,z88 x hx 2 oe];cases hL:x.L<;>cases hW:x.W<;>cases hS:x.S<;>simp [Wd.word]
theorem yfy(x:Wd)(hx:x.word<2147483648):bits .or .i32 (x.word:Int) 4=(({ x with S:=true }:Wd).word:Int):=by rw [show(4:Int)=((4:Nat):Int) from rfl,z88 x hx 4 oe];cases hL:x.L<;>cases hW:x.W<;>cases hS:x.S<;>simp [Wd.word]
theorem ybq(x:Nat)(hx:x<2147483648):bits .andNot .i32 (x:Int) 2=((x&&& 4294967293:Nat):Int):=by
 have e:(~~~(BitVec.ofInt 32 2):BitVec 32)=4294967293#32:=oe
 have hb:IntKind.i32.bits=32:=rfl;show IntKind.i32.wrap ((BitVec.ofInt 32 (x:Int)&&& ~~~(BitVec.ofInt 32 2)).toNat:Int)=_;rw [e,BitVec.ofInt_natCast,BitVec.toNat_and,BitVec.toNat_ofNat,BitVec.toNat_ofNat];have h1:x % 2 ^ 32=x:=Nat.mod_eq_of_lt oc;have h2:4294967293 % 2 ^ 32=4294967293:=oe
 rw [h1,h2];have h3:x&&& 4294967293<=x:=Nat.and_le_left;exact zb5 _ oc oc
theorem yeg(k c:Nat)(hk:k<8)(hc:c<268435456):(k+8*c)&&& 4294967293=(k&&& 5)+8*c:=by
 have h5:k&&& 5<8:=kcv Nat.and_le_left hk;rw [add8 k c hk,add8 _ c h5];apply Nat.eq_of_testBit_eq;intro i;simp only [Nat.testBit_and,Nat.testBit_or,Nat.testBit_shiftLeft];by_cases h3:i<3
 .have:i=0\/i=1\/i=2:=oc
  have h8:k=0\/k=1\/k=2\/k=3\/k=4\/k=5\/k=6\/k=7:=oc
  rcases this with rfl|rfl|rfl<;>rcases h8 with rfl|rfl|rfl|rfl|rfl|rfl|rfl|rfl<;>simp<;>decide
 .have hk3:k.testBit i=false:=kdu (kaf (by omega:k<2 ^ 3) (kbi oe oc));have hc3:i >= 32->c.testBit (i-3)=false:=λh=>kdu (kaf (by omega:c<2 ^ 28) (kbi oe oc));by_cases h32:i<32
  .have:Nat.testBit 4294967293 i=true:=by
     have key:∀j<32,3<=j->Nat.testBit 4294967293 j=true:=oe
     exact key i h32 oc
   simp [hk3,this]
  .simp [hk3,hc3 oc]
theorem yfu(x:Wd)(hx:x.word<2147483648):bits .andNot .i32 (x.word:Int) 2=(({ x with W:=false }:Wd).word:Int):=by obtain⟨k,h1,h2,h3⟩:=x.lo;rw [ybq _ hx,h3,yeg k x.c h1 oc,h2];cases hL:x.L<;>cases hW:x.W<;>cases hS:x.S<;>simp [Wd.word]
theorem ycq(x:Wd):((x.word:Int)).fdiv 8=(x.c:Int):=by obtain⟨k,h1,h2,h3⟩:=x.lo;rw [h3,kdf _ oe];omega
theorem z7d(x:Wd):(x.word:Int) / 8=(x.c:Int):=by rw [<-ycq x,kdf _ oe]
theorem yfx(x:Wd):(x.word:Int)+8=(({ x with c:=x.c+1 }:Wd).word:Int):=by unfold Wd.word;simp only;omega
end Go.Kp
namespace Go.Kp
open Go Go.Conc Go.ConcM Go.Proofs
open Go.ConcN (sumTo upd sumTo_upd upd_ne upd_same)
theorem uw{P G:Prop}(n:P)(h:Wr P->G:=by(intro n;refine ziq rfl oP ?_;refine nm ?_;exact n.p)):G:=h ⟨n⟩
theorem qa{P G:Prop}(n:P)(h:Wr P->G:=by(intro n;refine rg ?_;refine pu ?_;refine pu ?_;refine pu ?_;exact n.p)):G:=h ⟨n⟩
theorem qb{P G:Prop}(n:P)(h:Wr P->G:=by(intro n;refine pu ?_;refine zad ?_;exact n.p)):G:=h ⟨n⟩
theorem qc{P G:Prop}(n:P)(h:Wr P->G:=by(intro n;refine zaf ?_;refine rg ?_;refine qb ?_;exact n.p)):G:=h ⟨n⟩
theorem qd{P G:Prop}(n:P)(h:Wr P->G:=by(intro n;refine rg ?_;refine pu ?_;exact n.p)):G:=h ⟨n⟩
theorem qe{P G:Prop}(n:P)(h:Wr P->G:=by(intro n;refine pu ?_;refine pg ?_;refine pg ?_;refine pg ?_;exact n.p)):G:=h ⟨n⟩
theorem qf{P G:Prop}(n:P)(h:Wr P->G:=by(intro n;refine pu ?_;refine uw ?_;refine uw ?_;refine uw ?_;exact n.p)):G:=h ⟨n⟩
theorem qg{P G:Prop}(n:P)(h:Wr P->G:=by(intro n;refine qb ?_;refine cf ?_;exact n.p)):G:=h ⟨n⟩
theorem qh{P G:Prop}(n:P)(h:Wr P->G:=by(intro n;refine zaf ?_;refine qa ?_;exact n.p)):G:=h ⟨n⟩
theorem qi{P G:Prop}(n:P)(h:Wr P->G:=by(intro n;refine qa ?_;refine zad ?_;exact n.p)):G:=h ⟨n⟩
theorem qj{P G:Prop}(n:P)(h:Wr P->G:=by(intro n;refine qb ?_;refine ct ?_;exact n.p)):G:=h ⟨n⟩
theorem qk{P G:Prop}(n:P)(h:Wr P->G:=by(intro n;refine pg ?_;refine pg ?_;refine pu ?_;exact n.p)):G:=h ⟨n⟩
theorem ql{P G:Prop}(n:P)(h:Wr P->G:=by(intro n;refine uw ?_;refine uw ?_;exact n.p)):G:=h ⟨n⟩
theorem qm{P G:Prop}(n:P)(h:Wr P->G:=by(intro n;refine nm ?_;refine qb ?_;exact n.p)):G:=h ⟨n⟩
theorem qn{P G:Prop}(n:P)(h:Wr P->G:=by(intro n;refine zaf ?_;refine rg ?_;exact n.p)):G:=h ⟨n⟩
theorem qo{P G:Prop}(n:P)(h:Wr P->G:=by(intro n;refine pu ?_;refine pu ?_;exact n.p)):G:=h ⟨n⟩
section
variable{p:Par}{hst:yp0 p}{P:Program}{i:Nat}
theorem zgo{hi:0<i}{fn:FuncId}{Q:PSt->Go.Act->World->Prop}{s:PSt}{a:Go.Act}{w:World}{f:FuncId}{fnn:Func}{ds:List Deferred}(hx:zei P f fnn (λ_=>do mark .enable;pure Extern.Race.none_))(hd:a.defers=dcall f #[]::ds)(hz:s.τ.z=3)
  (d':Nat) (hd':d'=deafBehind s.τ.d #[⟨.mark .enable,false,true⟩]) (h:z3o (jdg p hst P i (zkq p P i hi)) fn Q ⟨s.n,{ s.τ with d:=d' },s.O⟩ ⟨a.tmps,ds⟩ w):z3o (jdg p hst P i (zkq p P i hi)) fn Q s a w:=by
 intro b cs hb hq todo
 have hn:∀s:PSt,s.τ.z=3->¬zar i s:=λs e h=>h.1 e
 refine⟨λhl=>absurd hz hl.1,λ_=>?_⟩
 obtain⟨q,hQ⟩:=(h b cs hb hq todo).2 (hn _ hz)
 exact⟨q+1,QuitsD.unwind_mark .enable rfl od hd hx.f hx.name hx.body hx.next hx.find (by rw [<-hd'];exact hQ)⟩
theorem z7u{S:zkv p P i}{fn:FuncId}{Q:PSt->Go.Act->World->Prop}{s:PSt}{a:Go.Act}{w:World}{f:FuncId}{fnn:Func}{ds:List Deferred}(hx:zei P f fnn (λ_=>do mark .enable;pure Extern.Race.none_))(hd:a.defers=dcall f #[]::ds)(hl:zar i s)
  (d':Nat) (hd':d'=deafBehind s.τ.d #[⟨.mark .enable,false,true⟩]) (h:∀n' w',(sys p).Le n' s.n->zay (λx=>s.O x\/p.ro x) w w'->z3o (jdg p hst P i S) fn Q ⟨n',{ s.τ with d:=d' },s.O⟩ ⟨a.tmps,ds⟩ w'):z3o (jdg p hst P i S) fn Q s a w:=by
 intro b cs hb hq todo
 refine⟨λhl=>zt5 hl rfl rfl λgh w1 he'=>.inr ?_,λhn=>absurd hl hn⟩
 obtain⟨t,hG⟩:=he'.gi
 have hth:gh.th i=s.τ:=he'.th
 have hd1:=zw7 (wk:=mayWake P (G { b.at a todo with mode:=.returning } cs)) hG he'.lt oR (zco he' hl) .enable (.inr rfl)
 have step:=stepG_unwind_entry (P:=P) (main:=i == 0) (b:=b) (todo:=todo) (cs:=cs) (w:=w1) (w':=w1) (v:=.tuple #[]) hd hx.f hx.name hx.body hx.next hx.find (by simp [Extern.Race.none_]) (evs:=#[⟨.mark .enable,false,true⟩]) od (by
  intro x hx';simp at hx';subst hx';exact⟨rfl,λg h=>by cases h⟩)
 refine⟨_,_,w1,_,step,rfl,hd1,?_⟩
 have e1:(({ gh with th:=upd gh.th i { gh.th i with d:=deafBehind (gh.th i).d #[⟨.mark .enable,false,true⟩] } }:PG).th i)={ s.τ with d:=d' }:=by show upd gh.th i _ i=_;rw [upd_same,hth,hd']
 have e2:(sys p).own { gh with th:=upd gh.th i { gh.th i with d:=deafBehind (gh.th i).d #[⟨.mark .enable,false,true⟩] } } i=s.O:=he'.own
 have hle:(sys p).Le ((sys p).now { gh with th:=upd gh.th i { gh.th i with d:=deafBehind (gh.th i).d #[⟨.mark .enable,false,true⟩] } } i) ((sys p).now gh i):=by have:=zhd (p:=p) (gh:=gh) (i:=i) (τ':={ gh.th i with d:=deafBehind (gh.th i).d #[⟨.mark .enable,false,true⟩] }) (h':=gh.h) (bc':=gh.bc) rfl rfl rfl i;exact⟨kdw (congrArg Prod.fst this),λ_=>congrArg Prod.snd this⟩
 have key:∀n τ O,(sys p).Le n s.n->τ=({ s.τ with d:=d' }:Thr)->O=s.O->∃tr,(sys p).JT P i S.Ch S.Lf tr n τ O (G { b.at ⟨a.tmps,ds⟩ todo with mode:=.returning } cs) w1:=by rintro n _ _ hn rfl rfl;exact zt6 (h n w1 hn he'.sees b cs hb hq todo)
 exact key _ _ _ (hle.trans he'.rk) e1 e2
end
section
variable{p:Par}{hst:yp0 p}{i:Nat}{S:zkv p Tryz.prog i}{S0:zkv p Tryz.prog 0}
abbrev wgA(Wg:Nat):Addr:=⟨Wg,0,none⟩
abbrev wgS(Wg:Nat):Addr:=⟨Wg,1,none⟩
def wgv(v wt:Nat):Value:=.int .u64 ((v:Int)*4294967296+(wt:Int))
theorem z7a(v wt:Nat):Value.int .u64 ((v*4294967296+wt:Nat):Int)=wgv v wt:=by simp [wgv]
set_option maxHeartbeats 1000000 in
theorem z87(s:PSt)(w:World)(hi:0<i)(hz:s.τ.z=1)(hd:0<s.τ.d)(hcap:8*(p.cap-p.b)+8<2147483632) :
  zbv (jdg p hst Tryz.prog i S) 132 #[.pointer (some (wgA p.Wg)),.int .u64 18446744069414584320] s w
   (λs' v w'=>s'.O=s.O/\zay (λx=>s.O x\/p.ro x) w w'/\∃v' wt:Nat,v=wgv v' wt/\v'<=(p.cap-p.b)/\wt<=1/\((v'=0/\wt=1/\s'.τ={ s.τ with z:=2 })\/(¬(v'=0/\wt=1)/\s'.τ={ s.τ with z:=3 }))):=by
 refine zaz Tryz.func132 og rfl 10 og od λF hF=>?_
 have h0:F 0=.pointer (some (wgA p.Wg)):=hF 0 _ rfl
 have h1:F 1=.int .u64 18446744069414584320:=hF 1 _ rfl
 clear hF
 refine qc ?_
 refine qh ?_
 refine pu ?_
 refine zty rfl og rfl zev.f zev.name zev.body zev.next zev.find oh oh hi hz hd hcap λn1 w1 v' ww' s1 hv=>?_
 have hw1:ww'.toNat<=1:=by cases ww'<;>simp
 have hww:ww'=true↔ww'.toNat=1:=by cases ww'<;>simp
 refine⟨λhl=>?_,λhl=>?_⟩
 .refine nm ?_;refine pu ?_;refine zad (zbc ⟨rfl,_,resultsC_tmp og _,rfl,s1,v',ww'.toNat,?_,hv,hw1,.inl ⟨hl.1,hww.1 hl.2,rfl⟩⟩);simp [wgv,hl.1,hl.2]
 .refine nm ?_;refine pu ?_;refine zad (zbc ⟨rfl,_,resultsC_tmp og _,rfl,s1,v',ww'.toNat,?_,hv,hw1,.inr ⟨λh=>hl ⟨h.1,hww.2 h.2⟩,rfl⟩⟩);simp [wgv]
set_option maxHeartbeats 1000000 in
theorem ycp(s:PSt)(w:World)(hi:0<i)(hz:s.τ.z=2)(hd:0<s.τ.d) :
  zbv (jdg p hst Tryz.prog i S) 134 #[.pointer (some (wgA p.Wg))] s w (λs' v w'=>v=.int .u64 1/\s'.τ=s.τ/\s'.O=s.O/\zay (λx=>s.O x\/p.ro x) w w'):=by
 refine zaz Tryz.func134 og rfl 7 og od λF hF=>?_
 have h0:F 0=.pointer (some (wgA p.Wg)):=hF 0 _ rfl
 clear hF
 refine qc ?_
 refine qh ?_
 refine ztx rfl og rfl zd7.f zd7.name zd7.body zd7.next zd7.find oh hi hz hd λn1 w1 s1=>?_
 refine nm ?_
 refine pu ?_
 refine zad (zbc ⟨rfl,_,resultsC_tmp og _,?_,rfl,rfl,s1⟩)
 simp
set_option maxHeartbeats 1000000 in
theorem yco(s:PSt)(w:World)(hi:0<i)(hz:s.τ.z=2)(hd:0<s.τ.d) :
  zbv (jdg p hst Tryz.prog i S) 135 #[.pointer (some (wgA p.Wg)),.int .u64 0] s w (λs' _ w'=>s'.τ={ s.τ with z:=4 }/\s'.O=s.O/\zay (λx=>s.O x\/p.ro x) w w'):=by
 refine zaz Tryz.func135 og rfl 9 og od λF hF=>?_
 have h0:F 0=.pointer (some (wgA p.Wg)):=hF 0 _ rfl
 have h1:F 1=.int .u64 0:=hF 1 _ rfl
 clear hF
 refine qa ?_
 refine pu ?_
 refine zrs rfl og rfl zqx.f zqx.name zqx.body zqx.next zqx.find oh oh hi hz hd λn1 w1 s1=>?_
 refine zad ⟨rfl,_,resultsC_none og _,rfl,rfl,s1⟩
set_option maxHeartbeats 1000000 in
theorem yfv(s:PSt)(w:World)(hz:s.τ.z=0)(hs:s.τ.s=0)(ha:s.τ.a=0)(hcap:8*(p.cap-p.b)+8<2147483632) :
  zbv (jdg p hst Tryz.prog 0 S0) 132 #[.pointer (some (wgA p.Wg)),.int .u64 4294967296] s w
   (λs' v w'=>s'.τ={ s.τ with a:=1 }/\s'.O=s.O/\zay (λx=>s.O x\/p.ro x) w w'/\∃v':Nat,v=wgv v' 0/\1<=v'/\v'<=(p.cap-p.b)+1):=by
 refine zaz Tryz.func132 og rfl 10 og od λF hF=>?_
 have h0:F 0=.pointer (some (wgA p.Wg)):=hF 0 _ rfl
 have h1:F 1=.int .u64 4294967296:=hF 1 _ rfl
 clear hF
 refine qc ?_
 refine qh ?_
 refine pu ?_
 refine ztz rfl og rfl zev.f zev.name zev.body zev.next zev.find oh oh hz hs ha hcap λn1 w1 v' s1 hv1 hv2=>?_
 refine nm ?_
 refine pu ?_
 refine zad (zbc ⟨rfl,_,resultsC_tmp og _,rfl,rfl,s1,v',?_,hv1,hv2⟩)
 simp [wgv]
set_option maxHeartbeats 1000000 in
theorem z85(s:PSt)(w:World)(hz:s.τ.z=0)(hs:s.τ.s=0)(ha:s.τ.a=0) :
  zbv (jdg p hst Tryz.prog 0 S0) 134 #[.pointer (some (wgA p.Wg))] s w (λs' v w'=>(sys p).Le s'.n s.n/\s'.O=s.O/\zay (λx=>s.O x\/p.ro x) w w'/\∃v':Nat,v=wgv v' 0/\v'<=(p.cap-p.b)/\((v'=0/\s'.τ={ s.τ with s:=2 })\/(0<v'/\s'.τ=s.τ/\s'.n.2=v'*4294967296))):=by
 refine zaz Tryz.func134 og rfl 7 og od λF hF=>?_
 have h0:F 0=.pointer (some (wgA p.Wg)):=hF 0 _ rfl
 clear hF
 refine qc ?_
 refine qh ?_
 refine zru rfl og rfl zd7.f zd7.name zd7.body zd7.next zd7.find oh hz hs ha λn1 w1 v' l1 s1 hv=>⟨λhl=>?_,λhl hn=>?_⟩
 .refine nm ?_;refine pu ?_;refine zad (zbc ⟨rfl,_,resultsC_tmp og _,l1,rfl,s1,v',?_,hv,.inl ⟨hl,rfl⟩⟩);simp [wgv,hl]
 .refine nm ?_;refine pu ?_;refine zad (zbc ⟨rfl,_,resultsC_tmp og _,l1,rfl,s1,v',?_,hv,.inr ⟨hl,rfl,hn⟩⟩);simp [wgv]
set_option maxHeartbeats 1000000 in
theorem z84(s:PSt)(w:World)(hz:s.τ.z=0)(hs:s.τ.s=2) :
  zbv (jdg p hst Tryz.prog 0 S0) 134 #[.pointer (some (wgA p.Wg))] s w (λs' v w'=>v=.int .u64 0/\s'.τ=s.τ/\s'.O=s.O/\zay (λx=>s.O x\/p.ro x) w w'):=by
 refine zaz Tryz.func134 og rfl 7 og od λF hF=>?_
 have h0:F 0=.pointer (some (wgA p.Wg)):=hF 0 _ rfl
 clear hF
 refine qc ?_
 refine qh ?_
 refine zrt rfl og rfl zd7.f zd7.name zd7.body zd7.next zd7.find oh hz hs λn1 w1 s1=>?_
 refine nm ?_
 refine pu ?_
 refine zad (zbc ⟨rfl,_,resultsC_tmp og _,?_,rfl,rfl,s1⟩)
 simp
set_option maxHeartbeats 1000000 in
theorem z86(s:PSt)(w:World)(v0:Nat)(hz:s.τ.z=0)(hs:s.τ.s=0)(ha:s.τ.a=0)(hv0:0<v0)(hn2:s.n.2=v0*4294967296) :
  zbv (jdg p hst Tryz.prog 0 S0) 143 #[.pointer (some (wgA p.Wg)),wgv v0 0,wgv v0 1] s w
   (λs' v w'=>s'.O=s.O/\zay (λx=>s.O x\/p.ro x) w w'/\((v=.bool true/\s'.τ={ s.τ with s:=1 })\/(v=.bool false/\s'.τ=s.τ/\s'.n.1<s.n.1))):=by
 refine zaz Tryz.func143 og rfl 13 og od λF hF=>?_
 have h0:F 0=.pointer (some (wgA p.Wg)):=hF 0 _ rfl
 have h1:F 1=.int .u64 ((v0*4294967296:Nat):Int):=((hF 1 _ rfl).trans (z7a v0 0).symm).trans (by rw [kb1])
 have h2:F 2=.int .u64 ((v0*4294967296+1:Nat):Int):=(hF 2 _ rfl).trans (z7a v0 1).symm
 clear hF
 refine qc ?_
 refine qh ?_
 refine qo ?_
 refine zxz rfl og rfl zlr.f zlr.name zlr.body zlr.next zlr.find v0 oh oh oh hz hs ha hv0 hn2 (λn1 w1 s1=>?_) (λn1 w1 l1 s1=>?_)
 .refine nm ?_;refine pu ?_;refine zad (zbc ⟨rfl,_,resultsC_tmp og _,rfl,s1,.inl ⟨?_,rfl⟩⟩);simp
 .refine nm ?_;refine pu ?_;refine zad (zbc ⟨rfl,_,resultsC_tmp og _,rfl,s1,.inr ⟨?_,rfl,l1⟩⟩);simp
end
end Go.Kp
namespace Go.Kp
open Go Go.Conc Go.ConcM Go.Proofs
section
variable{p:Par}{hst:yp0 p}{i:Nat}{S:zkv p Tryz.prog i}
structure zqr(p:Par)(i:Nat)(s:PSt)(w:World)(s':PSt)(w':World)(G:Nat->Prop)(cc:Nat->Nat):Prop where
 τ:s'.τ={ s.τ with r:=.owner,k:=s.τ.k-1,d:=0,hd:=true,cc:=cc }
 O:s'.O=λx=>s.O x\/G x
 gs:∀x,G x->x<w'.heap.size/\¬p.ro x
 ci:cc i=s.τ.c
 gd:p.Gd G cc w'
 sees:zay (λx=>s.O x\/p.ro x) w w'
set_option maxHeartbeats 1000000 in
theorem yak(slow:∀(s:PSt) (w:World),0<i->s.τ.r=.out->1<=s.τ.k->s.τ.d=1->s.τ.z=0->s.τ.hd=false->zbv (jdg p hst Tryz.prog i S) 167 #[.pointer (some (muA p.Mu))] s w (λs' _ w'=>∃G cc,zqr p i s w s' w' G cc))
  (s:PSt) (w:World) (hi:0<i) (hr:s.τ.r=.out) (hk:1<=s.τ.k) (hd:s.τ.d=0) (hz:s.τ.z=0) (hh:s.τ.hd=false) (hcap:8*(p.cap-p.b)+8<2147483632) :
  zbv (jdg p hst Tryz.prog i S) 139 #[.pointer (some (muA p.Mu))] s w (λs' _ w'=>∃G cc,zqr p i s w s' w' G cc):=by
 refine zaz Tryz.func139 og rfl 13 og od λF hF=>?_
 have h0:F 0=.pointer (some (muA p.Mu)):=hF 0 _ rfl
 clear hF
 refine qn ?_
 refine zcy (lv hi hz) .disable (.inl rfl) rfl og rfl ze2.f ze2.name ze2.body ze2.next ze2.find 1 (by rw [hd];rfl) λn1 w1 l1 s1=>zad ?_
 refine nm ?_
 refine zaf (zaf ?_)
 refine qa ?_
 refine zpn ⟨hi,hz,hh,kca,hcap⟩ rfl og rfl zcw.f zcw.name zcw.body zcw.next zcw.find 0 1 (by simp [Act.eval]) rfl rfl (λwd n hL hn he=>?_) (λn2 w2 l2 _ s2=>?_)
 .obtain⟨L,W,S,c,T⟩:=wd;have:L=false/\W=false/\S=false/\c=0:=by
    simp [Wd.word] at he;cases L<;>cases W<;>cases S<;>simp at he |-<;>omega
  obtain⟨rfl,rfl,rfl,rfl⟩:=this;refine⟨.owner,s.τ.k-1,⟨true,false,false,0,T⟩,by rw [hr];exact .fast T,by simp [hr];omega,rfl,rfl,λn2 w2 l2 _ s2=>zad ?_⟩;refine nm ?_;refine zdm (t:=true) (by simp [Act.eval]) ?_;simp only [if_true];refine zaf (zdm (t:=true) rfl ?_);simp only [if_true];refine qn ?_
  refine zcy (lv hi hz) .enable (.inr rfl) rfl og rfl zlq.f zlq.name zlq.body zlq.next zlq.find 0 og λn3 w3 l3 s3=>zad ?_;refine nm ?_;refine qd ?_
  (co_applyP zdf ?hl1 (.pointer (some (muA p.Mu))) rfl og ?hr1 ?h1;(case hl1=>exact lv hi hz);(case hr1=>(intro w1 st sm st' sm' hMu _;have hc:=hMu.cellSt;have hu:=z7e hc;exact⟨run_eq_of λK hK=>ou,listed_nil (by simp [go_sem,zq0 hc, *])⟩));refine nm ?_);intro n5 w5 l5 s5
  refine z45 rfl og rfl zhw.f zhw.name zhw.body zhw.next zhw.find (by simp [Act.eval]) hi hz rfl rfl hh λn4 w4 G cc l4 s4 hG hcc hGd=>zad ?_;refine zbc ⟨rfl,_,resultsC_none og _,G,cc,?_⟩;exact⟨rfl,rfl,hG,hcc,hGd,(((s1.trans s2).trans s3).trans s5).trans s4⟩
 .refine zad ?_;refine nm ?_;refine zdm (t:=false) (by simp [Act.eval]) ?_;simp only [kbd,if_false];refine zap ?_;refine qd ?_;refine za4 rfl og rfl (vs:=#[.pointer (some (muA p.Mu))]) (by simp [Act.eval]) (slow _ _ hi hr hk rfl hz hh) λs3 v w3 hp=>zad ?_
  .obtain⟨G,cc,hp⟩:=hp;exact⟨rfl,_,resultsC_none og _,G,cc,⟨hp.τ,hp.O,hp.gs,hp.ci,hp.gd,(s1.trans s2).trans hp.sees⟩⟩
end
end Go.Kp
