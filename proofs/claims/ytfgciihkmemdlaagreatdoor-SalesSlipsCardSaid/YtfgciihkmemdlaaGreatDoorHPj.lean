/- Pieces of a law about sales. Conditions: none. -/
import Derived.Test.YtfgciihkmemdlaaGreatDoorHPb
import Derived.Test.YtfgciihkmemdlaaGreatDoorHPg
namespace Go.Ab.J
open Go Go.Proofs Go.Kp
def sgR(ss:List Slip)(sg:List Bool)(n:Nat):List Bool:=(zae ss n).map λj=>sg.getD j.toNat false
def toR(ss:List Slip)(p:zd6):zfo:=(p.1.take ss.length,sgR ss p.2 ss.length)
theorem z1u(ss:List Slip)(n:Nat):∀j∈zae ss n,0<=j/\j<(n:Int):=λj hj=>by simp only [zae,kav,kbw,ka3] at hj;obtain⟨k,⟨hk,_⟩,rfl⟩:=hj;omega
theorem zuh(ss:List Slip)(n:Nat):zae ss (n+1)=zae ss n++(if (ss.getD n d7).kind=5 then [(n:Int)] else []):=zbn ss n
theorem zzu(ss:List Slip){sg sg':List Bool}(n:Nat)(h:∀j,j<n->sg.getD j false=sg'.getD j false):sgR ss sg n=sgR ss sg' n :=
 kcn λj hj=>by have:=z1u ss n j hj;exact h _ oc
theorem zd1(ss:List Slip)(sg:List Bool)(n:Nat):sgR ss sg (n+1)=sgR ss sg n++(if (ss.getD n d7).kind=5 then [sg.getD n false] else []):=by unfold sgR;rw [zuh,kbt];congr 1;split<;>simp
theorem zew{α:Type}(l:List α)(i j:Nat)(x d:α)(hi:i<l.length):(l.set i x).getD j d=if j=i then x else l.getD j d:=by
 simp only [kai,kdc];by_cases h:i=j
 .subst h;simp [hi]
 .rw [if_neg h,if_neg (Ne.symm h)]
theorem z1i(ss:List Slip)(h6:ss.length<=6)(hsg:∀i,i<ss.length->(ss.getD i d7).kind≠5->(ss.getD i d7).signed=0) :
  ∀(m i:Nat) (pw:List Int) (sg:List Bool) (wr:List Int) (sr:List Bool),i+m=ss.length->pw.length=6->sg.length=6->wr=pw.take i->sr=sgR ss sg i->zhu ss m i wr sr=(zks ss m i pw sg).map (toR ss)
 | 0,i,pw,sg,wr,sr,him,hp,hs,hw,hr=>by
   have:i=ss.length:=oc
   subst this;simp [zhu,zks,toR,hw,hr]
 | m+1,i,pw,sg,wr,sr,him,hp,hs,hw,hr=>by
   have hi6:i<6:=oc
   simp only [zhu,zks,List.map_flatMap];congr 1;funext n;have hpw:(pw.set i n).length=6:=oa hp
   have htk:wr++[n]=(pw.set i n).take (i+1):=by
    rw [hw,List.take_succ_eq_append_getElem oc];congr 1
    .rw [List.take_set];rw [List.set_eq_of_length_le (by rw [kcj];omega)]
    .simp
   have key:∀b,sgR ss (sg.set i b) (i+1)=sr++(if (ss.getD i d7).kind=5 then [b] else []):=λb=>by
    rw [zd1,hr];congr 1
    .exact zzu ss i λj hj=>by rw [zew _ _ _ _ _ oc,if_neg oc]
    .rw [zew _ _ _ _ _ oc,if_pos rfl]
   have ih:=λb=>z1i ss h6 hsg m (i+1) (pw.set i n) (sg.set i b) (wr++[n]) _ oc hpw (oa hs) htk (key b).symm;by_cases h5:(ss.getD i d7).kind=5
   .simp only [h5,if_true] at ih;simp only [h5,ne_eq,not_true_eq_false,if_false,true_and,kbt];congr 1
    .split
     .exact ih false
     .rfl
    .split
     .exact ih true
     .rfl
   .have h0:=hsg i oc h5;simp only [h5,if_false,kda] at ih;rw [if_pos h5,if_pos (show(ss.getD i d7).signed≠1 by rw [h0];decide),if_neg (λh=>h5 h.1),kda];exact ih false
theorem yap{most:Int}{ss:List Slip}{ms:List SumR}(hg:Good most ss ms):∀i,i<ss.length->(ss.getD i d7).kind≠5->(ss.getD i d7).signed=0:=λi hi h5=>by
 have hs:ss[i]?=some (ss.getD i d7):=by rw [kai,kaa hi];rfl
 exact(hg.slip i _ hs).sg0 h5
theorem zuv{most:Int}{ss:List Slip}{ms:List SumR}(hg:Good most ss ms):zds ss=(zgf ss).map (toR ss) :=
 z1i ss hg.nss (yap hg) ss.length 0 _ _ _ _ oc rfl rfl rfl rfl
theorem z7v(ss:List Slip)(h6:ss.length<=6)(hf:∀i,i<ss.length->(ss.getD i d7).kind=5->0<=(ss.getD i d7).for_/\(ss.getD i d7).for_<(i:Int))(pw:List Int)(sg:List Bool)(hp:pw.length=6) :
  ∀n,n<=ss.length->∀j,(zhq ss pw sg n).getD j 0=(zdv ss (pw.take ss.length) (sgR ss sg ss.length) n).1.getD j 0
 | 0,_,j=>by
   simp only [zhq,zdv];rcases kae j 6 with h|h
   .have:j=0\/j=1\/j=2\/j=3\/j=4\/j=5:=oc
    rcases this with rfl|rfl|rfl|rfl|rfl|rfl<;>rfl
   .simp [kay (show([0,0,0,0,0,0]:List Int).length<=j from h)]
 | n+1,hn,j=>by
   have ih:=z7v ss h6 hf pw sg hp n oc;have hl:=zfy ss pw sg n;have hr:=zk3 ss (pw.take ss.length) (sgR ss sg ss.length) n;have hx:=zpp ss (pw.take ss.length) (sgR ss sg ss.length) n;have hw:(pw.take ss.length).getD n 0=pw.getD n 0:=by simp only [kai,ka5,if_pos (show n<ss.length by omega)]
   have hz:(zhq ss pw sg n).getD n 0=0:=by rw [ih,kai,kay oc];rfl
   have happ:∀(x:Int) (j:Nat),((zdv ss (pw.take ss.length) (sgR ss sg ss.length) n).1++[x]).getD j 0=if j=n then x else (zdv ss (pw.take ss.length) (sgR ss sg ss.length) n).1.getD j 0:=λx j=>by
    simp only [kai];rcases kdd j n with h|h|h
    .rw [kam oc,if_neg oc]
    .subst h;rw [kao oc,if_pos rfl,hr];simp
    .rw [kao oc,if_neg oc,kay oy,kay oc]
   simp only [zhq,zdv];by_cases h5:(ss.getD n d7).kind=5
   .obtain⟨f0,f1⟩:=hf n oc h5
    have hsgn:(sgR ss sg ss.length).getD (zae ss n).length false=sg.getD n false:=by
     have:∀k,n+1+k<=ss.length->(sgR ss sg (n+1+k)).getD (zae ss n).length false=sg.getD n false:=λk=>by
      induction k with
      | zero =>intro _;rw [kb1,zd1,if_pos h5,kai,kao (by simp [sgR])];simp [sgR]
      | succ k ihk =>
        intro hk;rw [<-ihk oc,show n+1+(k+1)=(n+1+k)+1 by omega,zd1];have hlt:(zae ss n).length<(sgR ss sg (n+1+k)).length:=by
         clear ihk hk;induction k with
         | zero=>rw [kb1,zd1,if_pos h5];simp [sgR]
         | succ k ihk=>rw [show n+1+(k+1)=(n+1+k)+1 by omega,zd1];simp;omega
        simp only [kai];rw [kam hlt]
     have:=this (ss.length-(n+1)) oc;rwa [show n+1+(ss.length-(n+1))=ss.length by omega] at this
    simp only [h5,if_true,hx,hsgn,hw];have hf6:(ss.getD n d7).for_.toNat<(zhq ss pw sg n).length:=by rw [hl];omega
    split
    .rw [zew _ _ _ _ _ hf6,zew _ _ _ _ _ (by rw [kcz,kbx,hr];simp only [List.length_singleton];omega),zew _ _ _ _ _ (by rw [kbx,hr];simp),happ];by_cases e1:j=(ss.getD n d7).for_.toNat
     .simp [e1]
     .simp only [e1,if_false];by_cases e2:j=n
      .rw [if_pos e2,e2];exact hz
      .simp only [e2,if_false];exact ih j
    .rw [zew _ _ _ _ _ (by simp [hr]),happ];by_cases e2:j=n
     .rw [if_pos e2,e2];exact hz
     .simp only [e2,if_false];exact ih j
   .simp only [h5,if_false,hw];rw [zew _ _ _ _ _ (by rw [hl];omega),happ];by_cases e2:j=n
    .simp [e2]
    .simp only [e2,if_false];exact ih j
theorem zld{most:Int}{ss:List Slip}{ms:List SumR}(hg:Good most ss ms){i:Nat}(hi:i<ss.length):zne ss i (ss.getD i d7) :=
 hg.slip i _ (by rw [kai,kaa hi];rfl)
theorem zmb{most:Int}{ss:List Slip}{ms:List SumR}(hg:Good most ss ms)(p:zd6)(hp:p.1.length=6)(j:Nat):(zc0 ss p).getD j 0=(zc7 ss (toR ss p)).getD j 0 :=
 z7v ss hg.nss (λ_i hi h5=>let h:=(zld hg hi).for5 h5;⟨h.1,h.2.1⟩) p.1 p.2 hp ss.length (kac _) j
theorem zlx(ss:List Slip){am am':List Int}(h:∀j,am.getD j 0=am'.getD j 0)(k:Nat)(a:Int)(n:Nat):zbo ss am k a n=zbo ss am' k a n:=by unfold zbo;congr 1;exact kcn λi _=>by rw [h]
theorem zhx(ss:List Slip)(ms:List SumR){am am':List Int}(h:∀j,am.getD j 0=am'.getD j 0):zan ss ms am=zan ss ms am':=by unfold zan zao;congr 1;congr 1;funext j;simp only [zd3,zlx ss h]
theorem zup{most:Int}{ss:List Slip}{ms:List SumR}(hg:Good most ss ms){am am':List Int}(h:∀j,am.getD j 0=am'.getD j 0):∀n,n<=ss.length->∀j,(zcx ss am n).getD j 0=zc6 ss am' j n
 | 0,_,j=>by
   simp only [zcx,zc6];rcases kae j 6 with h|h
   .have:j=0\/j=1\/j=2\/j=3\/j=4\/j=5:=oc
    rcases this with rfl|rfl|rfl|rfl|rfl|rfl<;>rfl
   .rw [kai,kay (show([0,0,0,0,0,0]:List Int).length<=j from h)];rfl
 | n+1,hn,j=>by
   have ih:=zup hg h n oc;have hl:=zm6 ss am n;have h6:=hg.nss;simp only [zcx,zc6];by_cases h3:(ss.getD n d7).kind=3
   .obtain⟨f0,f1,_⟩:=(zld hg (show n<ss.length by omega)).for3 h3;have hf6:(ss.getD n d7).for_.toNat<(zcx ss am n).length:=by rw [hl];omega
    simp only [h3,if_true,true_and];rw [zew _ _ _ _ _ hf6];by_cases e:j=(ss.getD n d7).for_.toNat
    .rw [if_pos e,if_pos oc,e,ih,h]
    .rw [if_neg e,if_neg oc,ih]
   .simp only [h3,if_false,false_and,ih]
theorem zr2{most:Int}{ss:List Slip}{ms:List SumR}(hg:Good most ss ms){am am':List Int}(h:∀j,am.getD j 0=am'.getD j 0)(hl:am'.length=ss.length)(h0:∀j,0<=am.getD j 0):zdg ss am=zf9 ss am':=by
 have h6:=hg.nss;rw [Bool.eq_iff_iff];simp only [zdg,zf9,kar,ka3,decide_eq_true_eq,hl];constructor
 .intro hh j hj;have:=hh j oc;rwa [zup hg h ss.length (kac _) j,h j] at this
 .intro hh j hj;rw [zup hg h ss.length (kac _) j];rcases kae j ss.length with hlt|hge
  .have:=hh j hlt;rwa [<-h j] at this
  .have hz:∀n,n<=ss.length->zc6 ss am' j n=0:=λn=>by
     induction n with
     | zero=>intro _;rfl
     | succ n ih =>
       intro hn;simp only [zc6];split
       .rename_i h3;obtain⟨f0,f1,_⟩:=(zld hg (show n<ss.length by omega)).for3 h3.1;have:=h3.2;omega
       .exact ih oc
   rw [hz _ (kac _)];exact h0 j
def yfk(ss:List Slip)(i:Nat)(pw:List Int)(sg:List Bool):Prop :=
 ∀j,j<i->((ss.getD j d7).lo<=pw.getD j 0/\pw.getD j 0<=(ss.getD j d7).hi)/\((ss.getD j d7).kind=5->((ss.getD j d7).signed=1->sg.getD j false=true)/\((ss.getD j d7).signed=2->sg.getD j false=false))
theorem zp0(ss:List Slip)(h6:ss.length<=6):∀(m i:Nat) (pw:List Int) (sg:List Bool),i+m=ss.length->pw.length=6->sg.length=6->yfk ss i pw sg->∀p∈zks ss m i pw sg,yfk ss ss.length p.1 p.2
 | 0,i,pw,sg,him,hp,hs,hf,p,hm=>by
   simp only [zks,kcg] at hm;subst hm;have:i=ss.length:=oc
   subst this;exact hf
 | m+1,i,pw,sg,him,hp,hs,hf,p,hm=>by
   simp only [zks,kcq,kax] at hm;obtain⟨n,hn,hm⟩:=hm;have hn':(ss.getD i d7).lo<=n/\n<=(ss.getD i d7).hi:=by change n∈zbr (ss.getD i d7).lo (ss.getD i d7).hi at hn;simp only [zbr,kav,ka3] at hn;obtain⟨j,hj,rfl⟩:=hn;omega
   have step:∀b,((ss.getD i d7).kind=5->((ss.getD i d7).signed=1->b=true)/\((ss.getD i d7).signed=2->b=false))->yfk ss (i+1) (pw.set i n) (sg.set i b):=λb hb j hj=>by
    rw [zew _ _ _ _ _ oc,zew _ _ _ _ _ oc];by_cases e:j=i
    .subst e;simp only [if_true];exact⟨hn',hb⟩
    .simp only [e,if_false];exact hf j oc
   rcases hm with hm|hm
   .split at hm
    .rename_i h1;exact zp0 ss h6 m (i+1) _ _ oc (oa hp) (oa hs) (step false λ_=>⟨λh=>absurd h h1,λ_=>rfl⟩) p hm
    .cases hm
   .split at hm
    .rename_i h1;exact zp0 ss h6 m (i+1) _ _ oc (oa hp) (oa hs) (step true λ_=>⟨λ_=>rfl,λh=>absurd h h1.2⟩) p hm
    .cases hm
theorem z6x{most:Int}{ss:List Slip}{ms:List SumR}(hg:Good most ss ms):∀p∈zgf ss,yfk ss ss.length p.1 p.2 :=
 zp0 ss hg.nss ss.length 0 _ _ oc rfl rfl λj hj=>oc
theorem yda(ss:List Slip)(sg:List Bool){n:Nat}(h5:(ss.getD n d7).kind=5):∀k,(sgR ss sg (n+1+k)).getD (zae ss n).length false=sg.getD n false:=λk=>by
 have hlt:∀k,(zae ss n).length<(sgR ss sg (n+1+k)).length:=λk=>by
  induction k with
  | zero=>rw [kb1,zd1,if_pos h5];simp [sgR]
  | succ k ihk=>rw [show n+1+(k+1)=(n+1+k)+1 by omega,zd1];simp;omega
 induction k with
 | zero =>rw [kb1,zd1,if_pos h5,kai,kao (by simp [sgR])];simp [sgR]
 | succ k ihk =>rw [<-ihk,show n+1+(k+1)=(n+1+k)+1 by omega,zd1];simp only [kai];rw [kam (hlt k)]
theorem z4y{most:Int}{ss:List Slip}{ms:List SumR}(hg:Good most ss ms)(p:zd6)(hp:yfk ss ss.length p.1 p.2):zxr ss (toR ss p).1 (toR ss p).2=true:=by
 simp only [zxr,kar,ka3];intro j hj;obtain⟨h1,h2⟩:=hp j hj;have hw:(toR ss p).1.getD j 0=p.1.getD j 0:=by simp only [toR,kai,ka5,if_pos hj]
 have hk:=zld hg hj;simp only [zrm,hw,ka0,kc1,decide_eq_true_eq,kb7,decide_eq_false_iff_not,beq_iff_eq];refine⟨h1,?_⟩;by_cases h5:(ss.getD j d7).kind=5
 .have hs:(toR ss p).2.getD (zae ss j).length false=p.2.getD j false:=by
     have:=yda ss p.2 h5 (ss.length-(j+1));rw [show j+1+(ss.length-(j+1))=ss.length by omega] at this;exact this
  rw [hs];have:=hk.sg;obtain⟨h3,h4⟩:=h2 h5;by_cases e0:(ss.getD j d7).signed=0
  .exact .inl (.inr e0)
  .right;by_cases e1:(ss.getD j d7).signed=1
   .rw [h3 e1,decide_eq_true e1]
   .rw [h4 oc,decide_eq_false e1]
 .exact .inl (.inl h5)
theorem ag_eq{most:Int}{ss:List Slip}{ms:List SumR}(hg:Good most ss ms)(hlo:∀s∈ss,0<=s.lo/\s.hi<=999)(p:zd6)(hm:p∈zgf ss):zdk most ss ms (toR ss p)=agP most ss ms p:=by
 obtain⟨⟨hp,_⟩,hab⟩:=zna ss hlo p hm;have hnow:=zmb hg p hp;have hok:=zh6 ss p.1 p.2 hab ss.length;unfold zdk agP zeh;rw [z4y hg p (z6x hg p hm),<-zhx ss ms hnow,<-zr2 hg hnow (zb6 _ _) (λj=>(hok j).1),zwh];simp only [Bool.true_and];cases zdg ss (zc0 ss p)<;>simp [Bool.and_comm]
theorem z1g{most:Int}{ss:List Slip}{ms:List SumR}(hg:Good most ss ms):∀s∈ss,0<=s.lo/\s.hi<=999:=λs hs=>by obtain⟨i,hi⟩:=kba hs;have:=(hg.slip i s hi).amt;omega
theorem zg9{most:Int}{ss:List Slip}{ms:List SumR}(hg:Good most ss ms):zaj most ss ms=(zah most ss ms).map (toR ss):=by unfold zaj zah;rw [zuv hg,List.filter_map];congr 1;refine List.filter_congr λp hp=>?_;exact ag_eq hg (z1g hg) p hp
theorem zjp(most:Int)(ss:List Slip)(ms:List SumR)(own:Int):zbt most ss ms own=zcl most ss ms own:=by
 unfold zbt zcl;by_cases hc:zak most ss ms=0
 .have hg:=(za2 most ss ms).1 hc;simp only [hc,ne_eq,not_true_eq_false,if_false,zg9 hg,List.map_eq_nil_iff]
 .simp [hc]
theorem zvx{most:Int}{ss:List Slip}{ms:List SumR}(hg:Good most ss ms){i:Nat}(hi:i<(zah most ss ms).length):(zaj most ss ms).getD i rd0=toR ss ((zah most ss ms).getD i d12):=by rw [zg9 hg];simp [hi]
theorem zj0{p q:Nat->Bool}:∀n,(∀i,i<n->p i=q i)->zcg p n=zcg q n
 | 0,_=>rfl
 | n+1,h=>by simp only [zcg,zj0 n λi hi=>h i oc,h n oc]
end Go.Ab.J
