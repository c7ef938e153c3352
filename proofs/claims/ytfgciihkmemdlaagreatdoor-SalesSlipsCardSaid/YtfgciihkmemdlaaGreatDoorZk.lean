/- What all laws about sales rest on, beside any goroutines. Conditions: none. -/
import Derived.Test.YtfgciihkmemdlaaGreatDoorZi
import Derived.Conc.Beside
namespace Go.Ab
open Go Go.RowKit Go.Kp
open Go.ConcM (OsLater)
def zfa(m:List (Nat×za7)):AS:=m.map λp=>(2*p.1+1,p.2)
theorem zmd{t:Nat}:∀{m:List (Nat×za7)},zac (zfa m) (2*t)=none
 | []=>rfl
 | p::m=>by have ih:=zmd (t:=t) (m:=m);simp only [zfa,kbq] at ih |-;rw [zaa,if_neg oc];exact ih
theorem zhe{i:Nat}{c:za7}:∀{m:List (Nat×za7)},zac (zfa m) (2*i+1)=some c->(i,c)∈m
 | [],h=>by cases h
 | p::m,h=>by
   have ih:=zhe (i:=i) (c:=c) (m:=m);simp only [zfa,kbq] at ih h;rw [zaa] at h;split at h
   .have:p.1=i:=oc
    cases h;subst this;exact kdo ..
   .exact kdh _ (ih h)
theorem zpq{m:List (Nat×za7)}{i:Nat}:zac (zfa m) (2*i+1)≠none↔i∈m.map (·.1):=by
 constructor
 .intro h;cases hl:zac (zfa m) (2*i+1) with
  | none=>exact absurd hl h
  | some c=>exact kav.2 ⟨_,zhe hl,rfl⟩
 .intro h hn;induction m with
  | nil=>cases h
  | cons p m ih =>
    simp only [zfa,kbq] at hn ih;rw [zaa] at hn;split at hn
    .cases hn
    .simp only [kbq,kat] at h;rcases h with e|h
     .omega
     .exact ih h hn
def zr4(E:Env)(m:List (Nat×za7))(b:Nat):Prop:=∃p∈m,blk E p.1 (some p.2)=some b
def zt4(F0:FB)(E:Env)(σ:FSt)(w:World)(m:List (Nat×za7)):FB:=⟨w,F0.n,E.imm,σ.Gb,λb=>b<w.heap.size/\¬E.imm b/\¬σ.Gb b/\¬zr4 E m b⟩
section
variable{G:zbf}{N N':Nat}{F0:FB}{s t:AS}{σ σ':FSt}{a a2:Act}{w w':World}{E E2:Env}{m m':List (Nat×za7)}{args:List AV}{vs:List Value}
theorem ya7{E:Env}{w:World}{x:AV}{v:Value}(h:Rep E w x v):Rep { E with dfs:=[] } w x v:=Rep.step (E:=E) (E':={ E with dfs:=[] }) (λ_ h=>h) (zdy.refl E w) h λ_ _=>⟨rfl,rfl⟩
theorem ya8{E:Env}{base:Nat}{w:World}{i:Nat}{c:za7}(h:zic E base w i c):zic { E with dfs:=[] } base w i c :=
 h.step (λ_ h=>h) (zdy.refl E w) ⟨rfl,rfl⟩ (λ_ _=>⟨rfl,rfl⟩) λ_ _=>rfl
theorem z1r(h:FRel G N F0 s σ a w E)(hm:∀p∈m,zac s (2*p.1+1)=some p.2)(hN:args.length<=N')(hr:yf1 E w args vs)(hids:∀i∈zbb args,i∈m.map (·.1))(hcl:∀p∈m,∀i∈p.2.ids,i∈m.map (·.1)) :
  FRel G N' (zt4 F0 E σ w m) (zhk args 0++zfa m) σ { tmps:=vs.toArray++Array.replicate (N'-vs.toArray.size) undef,defers:=[] } w { E with dfs:=[] }:=by
 have hA:∀i,zac (zhk args 0) (2*i+1)=none:=λi=>by
  cases h:zac (zhk args 0) (2*i+1) with
  | none=>rfl
  | some c=>obtain⟨j,x,_,h2,_⟩:=zdw h;omega
 have hodd:∀i,zac (zhk args 0++zfa m) (2*i+1)=zac (zfa m) (2*i+1):=λi=>by rw [zbz,hA];rfl
 have hev:∀i,zac (zhk args 0++zfa m) (2*i)=zac (zhk args 0) (2*i):=λi=>by rw [zbz,zmd];cases zac (zhk args 0) (2*i)<;>rfl
 have hget:∀i c,zac (zfa m) (2*i+1)=some c->zac s (2*i+1)=some c/\(i,c)∈m:=λi c hc=>⟨hm _ (zhe hc),zhe hc⟩
 have hblk:∀i c,blk { E with dfs:=[] } i c=blk E i c:=λi c=>by cases c with
  | none=>rfl
  | some c=>cases c<;>rfl
 have hbl:∀i b,blk { E with dfs:=[] } i (zac (zhk args 0++zfa m) (2*i+1))=some b->blk E i (zac s (2*i+1))=some b/\zr4 E m b:=λi b hb=>by
  rw [hblk,hodd] at hb;cases hc:zac (zfa m) (2*i+1) with
  | none=>rw [hc] at hb;cases hb
  | some c =>rw [hc] at hb;obtain⟨h1,h2⟩:=hget i c hc;exact⟨by rw [h1];exact hb,⟨(i,c),h2,hb⟩⟩
 have hl:=hr.1
 have hrel:Rel G N' (reb F0.n w { E with dfs:=[] } (zhk args 0++zfa m)) (zhk args 0++zfa m) { tmps:=vs.toArray++Array.replicate (N'-vs.toArray.size) undef,defers:=[] } w { E with dfs:=[] }:=by
  refine⟨by simp;omega,rfl,⟨kd4,λD hD=>by cases hD⟩,λq x hx=>?_,λi c hc=>?_,λi j b hij hb1 hb2=>?_,λi b hb=>?_,h.rel.imm,⟨Below.refl _ _,λ_ _ _=>rfl,kak h.nle h.size⟩,λb hb _=>.inl hb,λk c hk i hi=>?_,h.rel.glb.step (λ_ h=>h) (zdy.refl E w)⟩
  .rw [hev] at hx;obtain⟨j,y,h2,h3,h4⟩:=zdw hx;cases h4
   have:q=j:=oc
   subst this;obtain⟨v,hv,hq⟩:=hr.get h2;have hlt:=(kab.1 hv).1;have:(vs.toArray++Array.replicate (N'-vs.toArray.size) undef).getD q undef=v:=by rw [kau,kb3 (oa hlt)];simp [hv]
   rw [this];exact ya7 hq
  .rw [hodd] at hc;exact ya8 (h.rel.mem i c (hget i c hc).1)
  .exact h.rel.dis i j b hij (hbl i b hb1).1 (hbl j b hb2).1
  .obtain⟨h1,h2⟩:=hbl i b hb;obtain⟨g1,g2,g3⟩:=h.rel.new i b h1;exact⟨⟨g1.1,λ_=>⟨.inl ⟨i,hb⟩,.inr ⟨i,hb⟩⟩⟩,g2,g3⟩
  .rw [hodd];rw [zpq];rcases kde k with hk2|hk2
   .obtain⟨q,rfl⟩:∃q,k=2*q:=⟨k / 2,oc⟩;rw [hev] at hk;obtain⟨j,y,h2,h3,h4⟩:=zdw hk;subst h4;exact hids i (zal.2 ⟨y,kag h2,hi⟩)
   .obtain⟨q,rfl⟩:∃q,k=2*q+1:=⟨k / 2,oc⟩;rw [hodd] at hk;exact hcl _ (hget q c hk).2 i hi
 have hheld:∀b,za1 { E with dfs:=[] } (zhk args 0++zfa m) b->za1 E s b/\zr4 E m b:=λb ⟨i,hi⟩=>⟨⟨i,(hbl i b hi).1⟩,(hbl i b hi).2⟩
 refine⟨hrel,λb hb=>?_,h.bd,h.gs,h.near,h.nearN,kak h.nle h.size,kac _,λb hb=>?_,λb hb=>(by cases hb),λb hb hF=>hF.2.1 hb,λb=>⟨id,λ_=>id⟩,OsLater.refl _,rfl⟩
 .rcases hb with hb|hb|hb
  .exact h.avoid b (.inl hb)
  .exact h.avoid b (.inr (.inl (hheld b hb).1))
  .cases hb
 .rcases hb with hb|hb
  .exact⟨hb.1,rfl,λhx=>hb.2.2.2 (hheld b hx).2,λhD=>(by cases hD),hb.2.2.1⟩
  .refine⟨h.rel.imm b hb,rfl,λhx=>?_,λhD=>(by cases hD),h.avoid b (.inl hb)⟩;obtain⟨i,hi⟩:=(hheld b hx).1;exact(h.rel.new i b hi).2.1 hb
def zgg(E E2:Env)(U:Nat->Prop) [DecidablePred U]:Env:=⟨λb=>E.imm b\/E2.imm b,λi=>if U i then E2.mem i else E.mem i,λi=>if U i then E2.buf i else E.buf i,E.dfs⟩
def zxk(E E2:Env)(i:Nat):za7->Prop
 | .cells _ _=>E2.mem i=E.mem i
 | .buf _ _ _|.mp _|.frz _ _=>E2.buf i=E.buf i
 | _=>True
theorem z6l{E E2:Env}{i:Nat}{c:za7}(h:zxk E E2 i c):blk E2 i (some c)=blk E i (some c):=by cases c<;>simp only [zxk] at h<;>simp [blk,h]
theorem z1s{U:Nat->Prop} [DecidablePred U](h:FRel G N F0 s σ a w E)(hm:∀p∈m,zac s (2*p.1+1)=some p.2)(k:FRel G N' (zt4 F0 E σ w m) t σ' a2 w' E2)(hm':∀p∈m',zac t (2*p.1+1)=some p.2)
  (hall:∀p∈m,p.1∈m'.map (·.1)) (hnew:∀i,i∈m'.map (·.1)->i∉m.map (·.1)->zac s (2*i+1)=none) (hU:∀i,U i->i∈m'.map (·.1)) (_hUn:∀i,i∈m'.map (·.1)->i∉m.map (·.1)->U i)
  (hpin:∀p∈m',¬U p.1->zxk E E2 p.1 p.2) (hcont:∀p∈m',∀i∈p.2.ids,U i) (hkeep:∀k c,zac s k=some c->(∀i∈m'.map (·.1),k≠2*i+1)->∀i∈c.ids,i∈m.map (·.1)->¬U i) :
  FRel G N F0 (zfa m'++s) σ' a w' (zgg E E2 U):=by
 have hmem:∀i c,zac (zfa m') (2*i+1)=some c->(i,c)∈m'/\zac t (2*i+1)=some c:=λi c hc=>⟨zhe hc,hm' _ (zhe hc)⟩
 have hsplit:∀i,(∃c,zac (zfa m') (2*i+1)=some c/\zac (zfa m'++s) (2*i+1)=some c)\/(zac (zfa m') (2*i+1)=none/\zac (zfa m'++s) (2*i+1)=zac s (2*i+1)/\i∉m'.map (·.1)):=λi=>by
  rw [zbz];cases hc:zac (zfa m') (2*i+1) with
  | none=>exact .inr ⟨rfl,rfl,λhi=>zpq.2 hi hc⟩
  | some c=>exact .inl ⟨c,rfl,rfl⟩
 have hev:∀q,zac (zfa m'++s) (2*q)=zac s (2*q):=λq=>by rw [zbz,zmd];rfl
 have hoth:∀k c,zac s k=some c->(∀i∈m'.map (·.1),k≠2*i+1)->∀i∈c.ids,¬U i:=λk c hk hn i hi hu=>by
  by_cases him:i∈m.map (·.1)
  .exact hkeep k c hk hn i hi him hu
  .exact h.rel.scp k c hk i hi (hnew i (hU i hu) him)
 have hid:∀i,¬U i->(zgg E E2 U).mem i=E.mem i/\(zgg E E2 U).buf i=E.buf i:=λi hu=>⟨if_neg hu,if_neg hu⟩
 have hid2:∀i,U i->(zgg E E2 U).mem i=E2.mem i/\(zgg E E2 U).buf i=E2.buf i:=λi hu=>⟨if_pos hu,if_pos hu⟩
 have hstand:∀b,b<w.heap.size->¬σ.Gb b->¬zr4 E m b->w'.heap[b]?=w.heap[b]?/\¬za1 E2 t b/\¬σ'.Gb b/\(E2.imm b->E.imm b):=λb hl hg hh=>by
  by_cases hi:E.imm b
  .obtain⟨_,h2,h3,_,h5⟩:=k.keep b (.inr hi);exact⟨h2,h3,h5,λ_=>hi⟩
  .have hF:(zt4 F0 E σ w m).fr b:=⟨hl,hi,hg,hh⟩;obtain⟨_,h2,h3,_,h5⟩:=k.keep b (.inl hF);exact⟨h2,h3,h5,λh2=>absurd hF (k.immO b h2)⟩
 have hsz:w.heap.size<=w'.heap.size:=k.size
 have himm:∀b,E.imm b->w'.heap[b]?=w.heap[b]?/\¬za1 E2 t b/\¬σ'.Gb b:=λb hi=>by obtain⟨_,h2,h3,_,h5⟩:=k.keep b (.inr hi);exact⟨h2,h3,h5⟩
 have hkp:zdy E w w':=λb hb o v hc=>by rw [World.cell?_of_block (w:=w) (a:=⟨b,o,none⟩) (himm b hb).1];exact hc
 have hsother:∀i b,i∉m'.map (·.1)->blk E i (zac s (2*i+1))=some b->b<w.heap.size/\¬σ.Gb b/\¬zr4 E m b:=λi b hi hb=>by refine⟨(h.rel.new i b hb).2.2,h.avoid b (.inr (.inl ⟨i,hb⟩)),λ⟨p,hp,hpb⟩=>?_⟩;have hne:p.1≠i:=λe=>hi (e▸hall p hp);exact h.rel.dis p.1 i b hne (by rw [hm p hp];exact hpb) hb
 have hdfs:∀D,D∈E.dfs->w'.heap[D]?=w.heap[D]?/\¬σ'.Gb D:=λD hD=>by have hD2:=(h.rel.dfo.2 D hD).2;have:=hstand D (kad.1 hD2).1 (h.avoid D (.inr (.inr hD))) λ⟨p,hp,hpb⟩=>h.rel.held (i:=p.1) (by rw [hm p hp];exact hpb) hD2;exact⟨this.1,this.2.2.1⟩
 have hblkB:∀i c,zac (zfa m') (2*i+1)=some c->blk (zgg E E2 U) i (some c)=blk E2 i (some c):=λi c hc=>by
  by_cases hu:U i
  .cases c<;>simp [blk,(hid2 i hu).1,(hid2 i hu).2]
  .have:=z6l (hpin _ (hmem i c hc).1 hu);rw [this];cases c<;>simp [blk,(hid i hu).1,(hid i hu).2]
 have hblkO:∀i,i∉m'.map (·.1)->∀c,blk (zgg E E2 U) i c=blk E i c:=λi hi c=>by
  have hu:¬U i:=λhu=>hi (hU i hu);cases c with
  | none=>rfl
  | some c=>cases c<;>simp [blk,(hid i hu).1,(hid i hu).2]
 have hbl:∀i b,blk (zgg E E2 U) i (zac (zfa m'++s) (2*i+1))=some b->(blk E2 i (zac t (2*i+1))=some b)\/(i∉m'.map (·.1)/\blk E i (zac s (2*i+1))=some b):=λi b hb=>by
  rcases hsplit i with ⟨c,h1,h2⟩|⟨h1,h2,h3⟩
  .rw [h2,hblkB i c h1] at hb;exact .inl (by rw [(hmem i c h1).2];exact hb)
  .rw [h2,hblkO i h3] at hb;exact .inr ⟨h3,hb⟩
 have hheld:∀b,za1 (zgg E E2 U) (zfa m'++s) b->za1 E2 t b\/(za1 E s b/\b<w.heap.size/\¬σ.Gb b/\¬zr4 E m b):=λb ⟨i,hi⟩=>(hbl i b hi).imp (λh=>⟨i,h⟩) λ⟨h1,h2⟩=>⟨⟨i,h2⟩,hsother i b h1 h2⟩
 have hrel:Rel G N (reb F0.n w' (zgg E E2 U) (zfa m'++s)) (zfa m'++s) a w' (zgg E E2 U):=by
  refine⟨h.rel.sz,h.rel.df,⟨h.rel.dfo.1,λD hD=>⟨λ_=>.inr hD,(hdfs D hD).1.trans (h.rel.dfo.2 D hD).2⟩⟩,λq x hx=>?_,λi c hc=>?_,λi j b hij hb1 hb2=>?_,λi b hb=>?_,λb hb=>?_,⟨Below.refl _ _,λ_ _ _=>rfl,kak (kak h.nle h.size) hsz⟩,λb hb _=>.inl hb,λq c hq i hi=>?_,h.rel.glb.step (E':=zgg E E2 U) (λ_ h=>Or.inl h) hkp⟩
  .rw [hev] at hx;exact(h.rel.tmp q x hx).step (E':=zgg E E2 U) (λ_ h=>Or.inl h) hkp λi hi=>hid i (hoth _ _ hx (λj _=>oc) i hi)
  .rcases hsplit i with ⟨c',h1,h2⟩|⟨h1,h2,h3⟩
   .rw [h2] at hc;cases hc
    obtain⟨g1,g2⟩:=hmem i c h1;have hM:zic E2 F0.n w' i c:=k.rel.mem i c g2;have hcs:∀j∈c.ids,(zgg E E2 U).mem j=E2.mem j/\(zgg E E2 U).buf j=E2.buf j:=λj hj=>hid2 j (hcont _ g1 j hj);by_cases hu:U i
    .exact hM.step (λ_ h=>Or.inr h) (zdy.refl E2 w') (hid2 i hu) hcs λ_ _=>rfl
    .have hp:=hpin _ g1 hu;cases c with
     | av x=>exact hM
     | dead=>trivial
     | cells T xs =>obtain⟨vs,m1,m2,m3⟩:=hM;exact⟨vs,by rw [(hid i hu).1,<-(show E2.mem i=E.mem i from hp)];exact m1,m2.step (λ_ h=>Or.inr h) (zdy.refl E2 w') hcs,m3⟩
     | buf wd T rows =>obtain⟨m1,vs,m2,m3⟩:=hM;refine⟨m1,vs,by rw [(hid i hu).2,<-(show E2.buf i=E.buf i from hp)];exact m2,m3.step (λ_ h=>Or.inr h) (zdy.refl E2 w') λj hj=>?_⟩;obtain⟨x,hx,hxj⟩:=zal.1 hj;obtain⟨row,hr,hxr⟩:=kci.1 hx;rw [((m1 row hr).2 x hxr).1] at hxj;cases hxj
     | frz wd rows =>have:=Rep.step (E':=zgg E E2 U) (λ_ h=>Or.inr h) (zdy.refl E2 w') hM ox;simp only [zic];rw [(hid i hu).2,<-(show E2.buf i=E.buf i from hp)];exact this
     | mp kvs =>obtain⟨r,es,cl,m1,m2,m3⟩:=hM;exact⟨r,es,cl,by rw [(hid i hu).2,<-(show E2.buf i=E.buf i from hp)];exact m1,m2,m3⟩
   .rw [h2] at hc;have hu:¬U i:=λhu=>h3 (hU i hu);have hne:∀q∈m'.map (·.1),2*i+1≠2*q+1:=λq hq e=>h3 (by rw [show i=q by omega];exact hq);refine(h.rel.mem i c hc).step (E':=zgg E E2 U) (λ_ h=>Or.inl h) hkp (hid i hu) (λj hj=>hid j (hoth _ _ hc hne j hj)) λb hb=>?_
    .have hx:blk E i (zac s (2*i+1))=some b:=by rw [hc];exact hb
     obtain⟨a1,a2,a3⟩:=hsother i b h3 hx;exact(hstand b a1 a2 a3).1
  .rcases hbl i b hb1 with g1|⟨g1,g1'⟩<;>rcases hbl j b hb2 with g2|⟨g2,g2'⟩
   .exact k.rel.dis i j b hij g1 g2
   .obtain⟨a1,a2,a3⟩:=hsother j b g2 g2';exact(hstand b a1 a2 a3).2.1 ⟨i,g1⟩
   .obtain⟨a1,a2,a3⟩:=hsother i b g1 g1';exact(hstand b a1 a2 a3).2.1 ⟨j,g2⟩
   .exact h.rel.dis i j b hij g1' g2'
  .have hH:za1 (zgg E E2 U) (zfa m'++s) b:=⟨i,hb⟩;rcases hbl i b hb with g1|⟨g1,g1'⟩
   .obtain⟨n1,n2,n3⟩:=k.rel.new i b g1;exact⟨⟨n1.1,λ_=>⟨.inl hH,.inr hH⟩⟩,λhi=>hi.elim (λhi=>(himm b hi).2.1 ⟨i,g1⟩) n2,n3⟩
   .obtain⟨n1,n2,n3⟩:=h.rel.new i b g1';obtain⟨a1,a2,a3⟩:=hsother i b g1 g1';exact⟨⟨n1.1,λ_=>⟨.inl hH,.inr hH⟩⟩,λhi=>hi.elim n2 λhi=>n2 ((hstand b a1 a2 a3).2.2.2 hi),kaf n3 hsz⟩
  .exact hb.elim (λhb=>kaf (h.rel.imm b hb) hsz) (k.rel.imm b)
  .rcases kde q with hq2|hq2
   .obtain⟨q',rfl⟩:∃q',q=2*q':=⟨q / 2,oc⟩;rw [hev] at hq;rcases hsplit i with ⟨c',_,e⟩|⟨_,e,_⟩
    .rw [e];simp
    .rw [e];exact h.rel.scp _ _ hq i hi
   .obtain⟨q',rfl⟩:∃q',q=2*q'+1:=⟨q / 2,oc⟩;rcases hsplit i with ⟨c',_,e⟩|⟨e0,e,e3⟩
    .rw [e];simp
    .rw [e];rcases hsplit q' with ⟨c2,g1,g2⟩|⟨g1,g2,g3⟩
     .rw [g2] at hq;cases hq
      exact absurd (hU i (hcont _ (hmem q' c g1).1 i hi)) e3
     .rw [g2] at hq;exact h.rel.scp _ _ hq i hi
 refine⟨hrel,λb hb=>?_,k.bd,k.gs,λb o hb ho=>?_,k.nearN,h.nle,kak h.size hsz,λb hb=>?_,h.dfsN,λb hb hF=>?_,λb=>⟨λhg=>(k.gbO b).1 ((h.gbO b).1 hg),λhl hg=>(h.gbO b).2 hl ((k.gbO b).2 (kaf hl h.size) hg)⟩,h.os.trans k.os,k.out.trans h.out⟩
 .rcases hb with (hb|hb)|hb|hb
  .exact(himm b hb).2.2
  .exact k.avoid b (.inl hb)
  .rcases hheld b hb with hb|⟨_,a1,a2,a3⟩
   .exact k.avoid b (.inr (.inl hb))
   .exact(hstand b a1 a2 a3).2.2.1
  .exact(hdfs b hb).2
 .rcases hb with hb|hb
  .exact h.near b o hb ((himm b hb).1.symm.trans ho)
  .exact k.near b o hb ho
 .obtain⟨h1,h2,h3,h4,h5⟩:=h.keep b hb;have hl:=kaf h1 h.size;have hnm:¬zr4 E m b:=λ⟨p,hp,hpb⟩=>h3 ⟨p.1,by rw [hm p hp];exact hpb⟩;obtain⟨g1,g2,g3,_⟩:=hstand b hl h5 hnm;exact⟨h1,g1.trans h2,λhx=>(hheld b hx).elim g2 λhx=>h3 hx.1,h4,g3⟩
 .rcases hb with hb|hb
  .exact h.immO b hb hF
  .obtain⟨h1,h2,h3,h4,h5⟩:=h.keep b (.inl hF);have hl:=kaf h1 h.size;have hnm:¬zr4 E m b:=λ⟨p,hp,hpb⟩=>h3 ⟨p.1,by rw [hm p hp];exact hpb⟩;exact h.immO b ((hstand b hl h5 hnm).2.2.2 hb) hF
end
end Go.Ab
namespace Go.Ab
open Go Go.RowKit Go.Kp
open Go.ConcM (OsLater)
def z4n(s:AS):List ResultVar->Option (List AV)
 | []=>some []
 | .tmp t::xs=>match zac s (2*t),z4n s xs with
   | some (.av x),some ys=>some (x::ys)
   | _,_=>none
 | _=>none
def zn6(s:AS)(rs:List ResultVar):Option AV :=
 match z4n s rs with
 | some [x]=>some x
 | some xs=>some (.tup xs)
 | none=>none
theorem zgl{C:Cx}{N:Nat}{w0:zfq}{s:AS}{a:Act}{w:World}{E:Env}(h:Rel C.G N w0 s a w E):∀{xs:List ResultVar} {ys:List AV},z4n s xs=some ys->
  ∃vs,(xs.mapM (zkb a.tmps)).run C.P w=.ok vs w/\yf1 E w ys vs/\∀b t,ResultVar.cell b t∈xs->False
 | [],ys,e=>by cases e;exact⟨[],od,yf1.nil _ _,λ_ _ h=>by cases h⟩
 | x::xs,ys,e=>by
   cases x with
   | tmp t =>
     simp only [z4n] at e;split at e
     .rename_i x ys' e1 e2;cases e
      obtain⟨vs,g1,g2,g3⟩:=zgl h e2;refine⟨a.tmps.getD t undef::vs,?_,yf1.cons (h.tmp t x e1) g2,λb t h=>?_⟩
      .simp [zkb,g1]
      .rcases kat.1 h with h|h
       .cases h
       .exact g3 b t h
     .cases e
   | cell b t=>cases e
def yde(args:List AV)(c:Code)(i:Nat)(k:za7)(p:Nat×Nat):Bool :=
 Nat.beq p.1 i&&!zno c p.2&&match args[p.2]?,k with
  | some (.own j),.buf _ _ _=>Nat.beq j i
  | some (.own j),.dead=>Nat.beq j i
  | some (.ptr j _),.cells _ _=>Nat.beq j i
  | _,_=>false
def yai:AV->Option Nat
 | .osl _ i _ _=>some i
 | _=>none
def inB(l:List Nat)(i:Nat):Bool:=l.any (Nat.beq i)
theorem zjq{l:List Nat}{i:Nat}:inB l i=true↔i∈l:=by unfold inB;rw [kaz];exact⟨λ⟨j,h1,h2⟩=>kaj h2▸h1,λh=>⟨i,h,Nat.beq_refl i⟩⟩
def okM(args:List AV)(m:List (Nat×za7))(c:Code)(r:AV)(m':List (Nat×za7))(U:List Nat)(pins:List (Nat×Nat)):Bool :=
 (zbb args).all (inB (m.map (·.1)))&&m.all (λp=>p.2.ids.all (inB (m.map (·.1)))&&inB (m'.map (·.1)) p.1)&&U.all (inB (m'.map (·.1)))&&
 m'.all (λp=>p.2.ids.all (inB U)&&(inB U p.1||(inB (m.map (·.1)) p.1&&pins.any (yde args c p.1 p.2))))&&
 (r.ids.all (inB U)||match yai r with
   | some i=>m'.any λp=>Nat.beq p.1 i&&(match p.2 with|.buf _ _ _=>true|_=>false)
   | none=>false)
namespace J
open Go.Kp (FSt jdgF WpR OpsR)
open Go.Conc (base)
def zu1(C:Cx)(f:FuncId)(args:List AV)(m:List (Nat×za7))(r:AV)(m':List (Nat×za7))(U:List Nat):Prop :=
 zdc C.P f=true/\∀(Post:Value->World->Prop) (N:Nat) (F0:FB) s σ a w E vs,FRel C.G N F0 s σ a w E->(∀p∈m,zac s (2*p.1+1)=some p.2)->(∀i∈m'.map (·.1),i∉m.map (·.1)->zac s (2*i+1)=none)->
  (∀k c,zac s k=some c->(∀i∈m'.map (·.1),k≠2*i+1)->∀i∈c.ids,i∈m.map (·.1)->i∉U)->yf1 E w args vs->
  zo5 C.P Post f vs.toArray σ w λσ' v w'=>∃E',FRel C.G N F0 (zfa m'++s) σ' a w' E'/\Rep E' w' r v/\∀i∈r.ids,i∈m'.map (·.1)
theorem ybt {C : Cx} {f : FuncId} {fn : Func} {c : Code} {args : List AV} {m m' : List (Nat × za7)} {r : AV} {U : List Nat} (pins : List (Nat × Nat)) (hf : C.P.funcs[f]? = some fn) (hb : fn.body = some c) (hn : (fn.name == "runtime.NumGoroutine") = false) (hN : Nat.ble args.length fn.ntmps = true)
  (hok:okM args m c r m' U pins=true)
  (h:AW C none fn.ntmps c (λe s=>(e=.normal\/e=.ret)/\zn6 s fn.results.toList=some r/\(∀p∈m',zac s (2*p.1+1)=some p.2)/\∀p∈pins,zac s (2*p.2)=(args[p.2]?).map .av) (zhk args 0++zfa m)):zu1 C f args m r m' U:=by
 refine⟨by simp [zdc,hf,hn,hb],λPost N F0 s σ a w E vs hah hm hnew hkeep hrep b cs hmr hJ=>?_⟩
 simp only [okM,ka0,kar,zjq,kc1,kaz] at hok
 obtain⟨⟨⟨⟨o1,o2⟩,o3⟩,o4⟩,o5⟩:=hok
 rw [Conc.enter_at _ hf hb]
 have h0:=z1r (N':=fn.ntmps) hah hm (kah hN) hrep o1 λp hp i hi=>(o2 p hp).1 i hi
 have hw:=h Post _ σ _ _ w f (λe σ' a' w'=>(e=.normal\/e=.ret)/\∃s' E',FRel C.G fn.ntmps (zt4 F0 E σ w m) s' σ' a' w' E'/\zn6 s' fn.results.toList=some r/\(∀p∈m',zac s' (2*p.1+1)=some p.2)/\(∀p∈pins,zac s' (2*p.2)=(args[p.2]?).map .av)/\zqv c { tmps:=vs.toArray++Array.replicate (fn.ntmps-vs.toArray.size) undef,defers:=[] } a') h0 λe s' σ' a' w' E' h1 h2 h3=>⟨h1.1,s',E',h2,h1.2.1,h1.2.2.1,h1.2.2.2,h3⟩
 have hback:∀{s' σ' w' E'} {a':Act},FRel C.G fn.ntmps (zt4 F0 E σ w m) s' σ' a' w' E'->(∀p∈m',zac s' (2*p.1+1)=some p.2)->(∀p∈pins,zac s' (2*p.2)=(args[p.2]?).map .av)->(∀t,zno c t=false->a'.tmps.getD t undef=(vs.toArray++Array.replicate (fn.ntmps-vs.toArray.size) undef).getD t undef)->∀v,Rep E' w' r v->
   ∃E2,FRel C.G N F0 (zfa m'++s) σ' a w' E2/\Rep E2 w' r v/\∀i∈r.ids,i∈m'.map (·.1):=λ{s' σ' w' E'} {a'} hk hm' hpl hsm v hv=>by
  have hpin:∀p∈m',p.1∉U->zxk E E' p.1 p.2:=λp hp hu=>by
   rcases(o4 p hp).2 with h1|⟨_,q,hq,h1⟩
   .exact absurd h1 hu
   .simp only [yde,ka0,kb7] at h1;obtain⟨⟨q1,q2⟩,q3⟩:=h1;cases hx:args[q.2]? with
    | none=>rw [hx] at q3;simp at q3
    | some x =>
      rw [hx] at q3;obtain⟨u,hu1,hu2⟩:=hrep.get hx;have hlt:=(kab.1 hu1).1;have e1:(vs.toArray++Array.replicate (fn.ntmps-vs.toArray.size) undef).getD q.2 undef=u:=by rw [kau,kb3 (oa hlt)];simp [hu1]
      have h3:=hk.rel.tmp q.2 x (by rw [hpl q hq,hx];rfl);rw [hsm q.2 q2,e1] at h3;split at q3
      .rename_i j wd T rows e2 e3;cases e2
       have:=kaj q3;subst this;rw [e3];exact(zda h3).symm.trans (zda hu2)
      .rename_i j e2 e3;rw [e3];trivial
      .rename_i j o T xs e2 e3;cases e2
       have:=kaj q3;subst this;rw [e3];show E'.mem p.1=E.mem p.1;cases hu2
       generalize hg:Value.pointer (some ⟨E.mem p.1,o,none⟩)=z at h3;cases h3
       simp only [Value.pointer.injEq,kap,Addr.mk.injEq] at hg;exact hg.1.symm
      .cases q3
  refine⟨_,z1s (U:=λi=>i∈U) hah hm hk hm' (λp hp=>(o2 p hp).2) hnew o3 (λi hi hi2=>?_) hpin (λp hp=>(o4 p hp).1) hkeep,?_,?_⟩
  .obtain⟨p,hp,rfl⟩:=kav.1 hi;rcases(o4 p hp).2 with h1|⟨h1,_⟩
   .exact h1
   .exact absurd h1 hi2
  .rcases o5 with o5|o5
   .exact Rep.step (E:=E') (λ_ h=>Or.inr h) (zdy.refl E' w') hv λi hi=>⟨if_pos (o5 i hi),if_pos (o5 i hi)⟩
   .cases r with
    | osl wd i lo n =>
      simp only [yai,kaz,ka0] at o5;obtain⟨p,hp,h1,h2⟩:=o5;have:=kaj h1;subst this;cases hv with
      | osl _ _ _ _ g l cp hg =>
        refine .osl wd p.1 lo n g l cp ?_;by_cases hu:p.1∈U
        .exact(if_pos hu).trans hg
        .have:=hpin p hp hu;cases hc:p.2 with
         | buf _ _ _ =>rw [hc] at this;exact(if_neg hu).trans ((show E'.buf p.1=E.buf p.1 from this).symm.trans hg)
         | _=>rw [hc] at h2;cases h2
    | _=>cases o5
  .rcases o5 with o5|o5
   .exactλi hi=>o3 i (o5 i hi)
   .cases r with
    | osl wd i lo n =>simp only [yai,kaz,ka0] at o5;obtain⟨p,hp,h1,h2⟩:=o5;intro j hj;simp only [AV.ids,kcg] at hj;rw [hj,<-Nat.eq_of_beq_eq_true h1];exact kav.2 ⟨p,hp,rfl⟩
    | _=>cases o5
 have hleave:∀σ' a' w' todo,(∃s' E',FRel C.G fn.ntmps (zt4 F0 E σ w m) s' σ' a' w' E'/\zn6 s' fn.results.toList=some r/\(∀p∈m',zac s' (2*p.1+1)=some p.2)/\(∀p∈pins,zac s' (2*p.2)=(args[p.2]?).map .av)/\zqv c { tmps:=vs.toArray++Array.replicate (fn.ntmps-vs.toArray.size) undef,defers:=[] } a')->(jdgF C.P Post).J σ' (Conc.G { (base f).atR a' todo with mode:=.returning } (b::cs)) w':=by
  rintro σ' a' w' todo ⟨s',E',hrel,hres,hm',hpl,hsm⟩;refine zfb hf hJ hmr hrel (λ_ _ _=>.inr trivial) (λσ2 w2 E2 hr2=>⟨?_,?_⟩) todo
  .unfold zn6 at hres;have hr3:FRel C.G fn.ntmps (zt4 F0 E σ w m) s' ⟨σ2.Gb,w2.heap.size⟩ { a' with defers:=[] } w2 E2:=⟨hr2.rel,hr2.avoid,kac _,hr2.gs,hr2.near,hr2.nearN,hr2.nle,hr2.size,hr2.keep,hr2.dfsN,hr2.immO,hr2.gbO,hr2.os,hr2.out⟩;split at hres
   .rename_i x hx;cases hres
    obtain⟨us,g1,g2,g3⟩:=zgl hr2.rel hx;obtain⟨v,us',rfl,hv,hn⟩:=g2.inv;have:us'=[]:=kas hn.1.symm;subst this;exact⟨v,zbw g1,hback hr3 hm' hpl hsm v hv⟩
   .rename_i xs hne hx;cases hres
    obtain⟨us,g1,g2,g3⟩:=zgl hr2.rel hx;have hul:us.length≠1:=λh1=>by
     have:=g2.1
     match xs,hne with
     | [],_=>simp at this;omega
     | [x],hne=>exact hne x rfl
     | a::b::l,_=>simp at this;omega
    have:(results fn a'.tmps).run C.P w2=.ok (.tuple us.toArray) w2:=by rw [zbw g1,zg6 hul]
    exact⟨_,this,hback hr3 hm' hpl hsm _ (Rep.tup (E:=E2) xs us g2.1 g2.2)⟩
   .cases hres
  .unfold zn6 at hres;split at hres
   .rename_i x hx;exactλb t hb=>((zgl hr2.rel hx).choose_spec.2.2 b t hb).elim
   .rename_i xs _ hx;exactλb t hb=>((zgl hr2.rel hx).choose_spec.2.2 b t hb).elim
   .cases hres
 have:=hw (base f) [] (b::cs) rfl oU rfl λe σ' a' w' q=>?_
 .exact this
 .obtain⟨he,q⟩:=q;rcases he with rfl|rfl
  .exact Kp.Jdg.ctl (D:=jdgF C.P Post) rfl rfl rfl (λw1=>Conc.stepG_end (b:=base f)) (hleave σ' a' w' [] q)
  .exact⟨rfl,λtodo=>hleave σ' a' w' todo q⟩
section call
variable{C:Cx}{N:Nat}{s:AS}{d:Nat}{ty:TypeId}{pos:String}{af:Array Edge}{g:Option (Nat×Bool)}{x:Operand}{xs:Array Operand}{ts:Array TypeId}{f:FuncId}{p q ys:List AV}{z y:AV}{m m':List (Nat×za7)}{U:List Nat}
theorem zsq{Post:Value->World->Prop}{F0:FB}{σ:FSt}{E:Env}{a:Act}{w:World}{r:Option Nat}{fn:FuncId}{ops:Array Oper}{i:Nat}{rest:List Nat}{Q:Exit->FSt->Act->World->Prop}(ho:ops[i]?=some ⟨some d,.call { callee:=.value x,args:=xs,argTypes:=ts },ty,pos,af,g⟩)(hw:Region.wanted ⟨some d,.call { callee:=.value x,args:=xs,argTypes:=ts },ty,pos,af,g⟩ (yielded ops a.tmps)=true)
  (hr:FRel C.G N F0 s σ a w E) (hd:d<N) (hx:ev s x=some z) (hc:zba z=some (f,p,q)) (hy:evL s xs.toList=some ys) (hm:∀p∈m,zac s (2*p.1+1)=some p.2) (hnew:∀i∈m'.map (·.1),i∉m.map (·.1)->zac s (2*i+1)=none)
  (hkeep:∀k c,zac s k=some c->(∀i∈m'.map (·.1),k≠2*i+1)->∀i∈c.ids,i∈m.map (·.1)->i∉U) (hf:zu1 C f (p++ys++q) m y m' U)
  (hK:∀σ' v w' E',FRel C.G N F0 ((2*d,.av y)::(zfa m'++s)) σ' (a.put (some d) v) w' E'->OpsR (jdgF C.P Post) r fn ops rest Q σ' (a.put (some d) v) w'):OpsR (jdgF C.P Post) r fn ops (i::rest) Q σ a w:=by
 obtain⟨hok,hf⟩:=hf
 obtain⟨h1,h2⟩:=hr.rel.evL hy
 obtain⟨us,vs,e1,e2⟩:=zfn (hr.rel.ev hx) hc h1
 have:=hf Post N F0 s σ a w E _ hr hm hnew hkeep e2
 rw [ka9] at this
 refine zgp ho hw (λc e=>by cases e) (λw=>zfl e1 hok) (λw=>zfk e1 hok) this λσ' v w' hb=>?_
 obtain⟨E',hg,hrep,hids⟩:=hb
 exact hK σ' v w' _ (hg.put hd hrep λi hi=>by
  rw [zbz];cases hl:zac (zfa m') (2*i+1) with
  | none=>exact absurd hl (zpq.2 (hids i hi))
  | some c=>simp)
theorem yb3(hd:d<N)(hx:ev s x=some z)(hc:zba z=some (f,p,q))(hy:evL s xs.toList=some ys)(hm:∀p∈m,zac s (2*p.1+1)=some p.2)(hnew:∀i∈m'.map (·.1),i∉m.map (·.1)->zac s (2*i+1)=none)(hU:∀i∈U,i∉m.map (·.1))(hf:zu1 C f (p++ys++q) m y m' U) :
  AOpJ C N ⟨some d,.call { callee:=.value x,args:=xs,argTypes:=ts },ty,pos,af,g⟩ (rds x++zts xs.toList++m.map (λp=>2*p.1+1)++m'.map (λp=>2*p.1+1)) s ((2*d,.av y)::zfa m'):=by
 intro Post F0 σ E s' a w hR hr hnd r fn ops i rest Q ho hw hK
 refine zsq ho hw hr hd (zat hR (λ_ h=>by simp [h]) hx) hc ((zct λr h=>hR r oo).trans hy) (λp hp=>(hR _ (by simp only [kax,kav];exact .inl (.inr ⟨p,hp,rfl⟩))).trans (hm p hp)) (λi hi hi2=>?_) (λ_ _ _ _ i _ hi hu=>hU i hu hi) hf λσ' v w' E' h=>hK σ' v w' E' (oa h)
 obtain⟨p,hp,rfl⟩:=kav.1 hi
 exact(hR _ (by simp only [kax,kav];exact .inr ⟨p,hp,rfl⟩)).trans (hnew _ hi hi2)
def z0u(s:AS):List (Nat×za7)->Prop
 | []=>True
 | p::m=>zac s (2*p.1+1)=some p.2/\z0u s m
theorem zir{s:AS}:∀{m:List (Nat×za7)},z0u s m->∀p∈m,zac s (2*p.1+1)=some p.2
 | [],_,p,hp=>by cases hp
 | q::m,h,p,hp=>by
   rcases kat.1 hp with rfl|hp
   .exact h.1
   .exact zir h.2 p hp
def ydg(s:AS)(m m':List (Nat×za7))(U:List Nat):Bool:=m'.all (λp=>inB (m.map (·.1)) p.1||(zac s (2*p.1+1)).isNone)&&U.all λi=>!inB (m.map (·.1)) i
theorem gM{ops rest:List Oper}{dr:Bool}{K:AS->Prop}{acc:List (List Nat×List Nat)}{Gk:List Nat}
  (hf:zu1 C f (p++ys++q) m y m' U) (next:ADr C N ops dr K rest ((Gk++(rds x++zts xs.toList++m.map (λp=>2*p.1+1)++m'.map (λp=>2*p.1+1)),((2*d,za7.av y)::zfa m').map (·.1))::acc) (((2*d,.av y)::zfa m')++s)) (hg:Gd ops ⟨some d,.call { callee:=.value x,args:=xs,argTypes:=ts },ty,pos,af,g⟩ s Gk:=by first|exact gdN rfl|exact gdT rfl rfl rfl)
  (hd:d<N:=by decide) (hx:ev s x=some z:=by exact rfl) (hc:zba z=some (f,p,q):=by exact rfl) (hy:evL s xs.toList=some ys:=by exact rfl) (hm:z0u s m:=by(repeat' (first|exact trivial|refine⟨rfl,?_⟩))) (hnew:ydg s m m' U=true:=by exact rfl) :
  ADr C N ops dr K (⟨some d,.call { callee:=.value x,args:=xs,argTypes:=ts },ty,pos,af,g⟩::rest) acc s:=by
 simp only [ydg,ka0,kar,kc1,Option.isNone_iff_eq_none,kb7] at hnew
 refine⟨_,_,znq hg (yb3 hd hx hc hy (zir hm) (λi hi hi2=>?_) (λi hi hi2=>?_) hf),next⟩
 .obtain⟨p,hp,rfl⟩:=kav.1 hi;rcases hnew.1 p hp with h|h
  .exact absurd (zjq.1 h) hi2
  .exact h
 .have:=hnew.2 i hi;rw [zjq.2 hi2] at this;cases this
end call
end J
end Go.Ab
namespace Go.Ab
open Go Go.RowKit Go.Kp
namespace J
open Go.Kp (FSt jdgF WpR OpsR wpR_region opsR_nil)
variable{C:Cx}{Post:Value->World->Prop}{r:Option Nat}{fn:FuncId}{N:Nat}{F0:FB}
theorem ADr.listR{ops:List Oper}{dr:Bool}{K:AS->Prop}{Q:Exit->FSt->Act->World->Prop}{rest:List Nat}{a0:Act}(hnd:ops.all zd2=true)(hQ:∀s σ a w E,K s->FRel C.G N F0 s σ a w E->zqp ops a0 a->OpsR (jdgF C.P Post) r fn ops.toArray rest Q σ a w) :
  ∀{l:List Oper} {n:Nat} {acc:List (List Nat×List Nat)} {s:AS} {σ:FSt} {a:Act} {w:World} {E:Env},(∀j o,l[j]?=some o->ops[n+j]?=some o)->ADr C N ops dr K l acc s->FRel C.G N F0 s σ a w E->zqp ops a0 a->
   OpsR (jdgF C.P Post) r fn ops.toArray (List.range' n l.length++rest) Q σ a w
 | [],n,acc,s,σ,a,w,E,hl,h,hr,hoff=>hQ s σ a w E h.2 hr hoff
 | o::l,n,acc,s,σ,a,w,E,hl,h,hr,hoff=>by
   obtain⟨R,u,h1,h2⟩:=h;have ho:ops[n]?=some o:=hl 0 o rfl;have hmem:=kag ho;rw [kbo,List.range'_succ];exact h1.run hr (kar.1 hnd o hmem) (oa ho) λσ' v w' E' hr'=>ADr.listR hnd hQ (λj o' hj=>by
    have:=hl (j+1) o' (oa hj);rwa [show n+(j+1)=n+1+j by omega] at this) h2 hr' (hoff.put hmem v)
def z5g(s:AS)(m m':List (Nat×za7))(U:List Nat):Bool :=
 s.all λe=>(m'.any λp=>Nat.beq e.1 (2*p.1+1))||match zac s e.1 with
  | some c=>c.ids.all λi=>!inB (m.map (·.1)) i||!inB U i
  | none=>true
theorem z98{s:AS}{k:Nat}{c:za7}(h:zac s k=some c):∃e∈s,e.1=k:=by
 induction s with
 | nil=>cases h
 | cons p s ih =>
   obtain⟨k',c'⟩:=p;rw [zaa] at h;split at h
   .rename_i e;exact⟨_,kdo ..,e⟩
   .obtain⟨e,h1,h2⟩:=ih h;exact⟨e,kdh _ h1,h2⟩
theorem yaf{s:AS}{m m':List (Nat×za7)}{U:List Nat}(h:z5g s m m' U=true):∀k c,zac s k=some c->(∀i∈m'.map (·.1),k≠2*i+1)->∀i∈c.ids,i∈m.map (·.1)->i∉U:=λk c hk hn i hi hm hu=>by
 obtain⟨e,he,rfl⟩:=z98 hk;have:=kar.1 h e he;simp only [kc1,kaz] at this;rcases this with ⟨p,hp,h1⟩|h1
 .exact hn p.1 (kav.2 ⟨p,hp,rfl⟩) (kaj h1)
 .rw [hk] at h1;have:=kar.1 h1 i hi;rw [zjq.2 hm,zjq.2 hu] at this;cases this
section
variable{s:AS}{d:Nat}{ty:TypeId}{pos:String}{af:Array Edge}{x:Operand}{xs:Array Operand}{ts:Array TypeId}{f:FuncId}{p q ys:List AV}{z y:AV}{m m':List (Nat×za7)}{U:List Nat}
structure z3r(C:Cx)(N d:Nat)(x:Operand)(xs:Array Operand)(f:FuncId)(p q ys:List AV)(z y:AV)(m m':List (Nat×za7))(U:List Nat)(Q:Exit->AS->Prop)(s:AS):Prop where
 hf:zu1 C f (p++ys++q) m y m' U
 next:Q .normal (((2*d,.av y)::zfa m')++s)
 hd:d<N:=by decide
 hx:ev s x=some z:=by exact rfl
 hc:zba z=some (f,p,q):=by exact rfl
 hy:evL s xs.toList=some ys:=by exact rfl
 hm:z0u s m:=by(repeat' (first|exact trivial|refine⟨rfl,?_⟩))
 hnew:(m'.all λp=>inB (m.map (·.1)) p.1||(zac s (2*p.1+1)).isNone)=true:=by exact rfl
 hk:z5g s m m' U=true:=by exact rfl
abbrev zj6(d:Nat)(ty:TypeId)(pos:String)(af:Array Edge)(x:Operand)(xs:Array Operand)(ts:Array TypeId):Oper:=⟨some d,.call { callee:=.value x,args:=xs,argTypes:=ts },ty,pos,af,none⟩
theorem ybm{id:Nat}{l:List Oper}{Q:Exit->AS->Prop}(hnd:(l++[zj6 d ty pos af x xs ts]).all zd2=true)
  (h:ADr C N (l++[zj6 d ty pos af x xs ts]) false (z3r C N d x xs f p q ys z y m m' U Q) l [] s) :
  AW C r N (.region id (l++[zj6 d ty pos af x xs ts]).toArray false) Q s:=λPost F0 σ E a w fn Qr hr hQ =>
 wpR_region (by
  have:=ADr.listR (Post:=Post) (r:=r) (fn:=fn) (Q:=Qr) (rest:=[l.length]) hnd (λs' σ' a' w' E' h1 h2 h3=>by
   have hn:=h1.hnew;simp only [kar,kc1,Option.isNone_iff_eq_none] at hn;have ho:(l++[zj6 d ty pos af x xs ts]).toArray[l.length]?=some (zj6 d ty pos af x xs ts):=od
   have hw:Region.wanted (zj6 d ty pos af x xs ts) (yielded (l++[zj6 d ty pos af x xs ts]).toArray a'.tmps)=true:=rfl;refine zsq ho hw h2 h1.hd h1.hx h1.hc h1.hy (zir h1.hm) (λi hi hi2=>?_) (yaf h1.hk) h1.hf λσ2 v w2 E2 h4=>opsR_nil (hQ _ _ σ2 _ w2 E2 h1.next (oa h4) λt ht=>(h3.put (o:=zj6 d ty pos af x xs ts) od v) t (by simpa [zno] using ht))
   obtain⟨p,hp,rfl⟩:=kav.1 hi;rcases hn p hp with h|h
   .exact absurd (zjq.1 h) hi2
   .exact h) (n:=0) (λj o hj=>by rw [kb0,kam (kab.1 hj).1];exact hj) h hr (zqp.refl _ _)
  rw [kdi];simpa [List.range'_concat] using this)
end
end J
end Go.Ab
namespace Go.Ab
open Go Go.RowKit Go.Kp
open Go.ConcM (OsLater)
namespace J
open Go.Kp (FSt jdgF WpR OpsR)
open Go.Conc (base Leavers Past EvL AtEnd)
variable{P:Program}{Post:Value->World->Prop}
theorem z5z{Gb:Nat->Prop}{B B':Nat}{g:Goroutine}{w:World}(hB:B<=B')(h:∀d,AtEnd P (zja Gb) B' Post g (w.at d)):z8z P Post Gb B g w:=λgs sl t q h0 hL hP _ =>
 Go.Conc.beside_ends (D:=λ_ _ _=>False) (n:=0) (λ_ _ _ hF=>hF.elim) h0 hL (hP.mono hB) (λw1 hw1=>by obtain⟨d,rfl⟩:=hw1;exact h d)
variable{N:Nat}{F0:FB}{s s':AS}{σ σ':FSt}{a a':Act}{w w':World}{E E':Env}{C:Cx}
theorem z02{f:FuncId}{fn:Func}(hf:C.P.funcs[f]?=some fn)(hi:C.P.inits.idxOf? f=none)
  (h:FRel C.G N F0 s σ a w E) (hres:∀σ w E,FRel C.G N F0 s σ { a with defers:=[] } w E->(∃v,(results fn a.tmps).run C.P w=.ok v w/\Post v w)/\∀b t,ResultVar.cell b t∈fn.results.toList->PtA (inA E s w) (a.tmps.getD b undef))
  (todo:List Item):(jdgF C.P Post).J σ (Conc.G { (base f).atR a todo with mode:=.returning } []) w:=by
 refine zpr E.dfs { (base f).atR a todo with mode:=.returning } rfl rfl rfl h rfl λσ2 w2 E2 hr2 _=>?_
 intro d0
 refine z5z (B':=w2.heap.size) hr2.bd λd=>?_
 have hr3:=(hr2.drew d0).drew d
 obtain⟨⟨v,k1,k2⟩,k3⟩:=hres σ2 _ _ hr3
 obtain⟨rs,new,g1,g2,_⟩:=ft_run (A:=inA E2 s ((w2.at d0).at d)) (P:=C.P) _ (zok fn a.tmps k3) ((w2.at d0).at d) #[] hr3.nearA λb hb=>.inr (.inr hb)
 have e1:rs=.ok v ((w2.at d0).at d):=by have:=Sem.runT_fst C.P (results fn a.tmps) ((w2.at d0).at d) #[];rw [g1] at this;exact this.trans k1
 subst e1
 rw [kcf] at g1
 refine⟨rfl,v,seen C.P f new,?_,λe he=>zjx (λb hb=>hr3.inA hb) (g2.evs e (seen_sub he)),k2⟩
 have e2:=zrq (P:=C.P) (fr:=Frame.mk f a.tmps todo [] .returning .normal none) (fn:=fn) (cs:=[]) (w:=(w2.at d0).at d) rfl rfl hf
 rw [show(Frame.mk f a.tmps todo [] .returning .normal none).tmps=a.tmps from rfl,g1] at e2
 refine Eq.trans e2 ?_
 simp [doReturn,GStep.after,hi]
def Top(C:Cx)(f:FuncId)(args:List AV)(r:AV):Prop :=
 ∀(Post:Value->World->Prop) (imm:Nat->Prop) σ w vs,zs7 imm σ w->zb3 C.G (zca imm) w->yf1 (zca imm) w args vs->
  (∀σ' v w',ycl σ w σ' w'->Rep (zca λb=>imm b\/z96 w w' σ' (λ_=>True) b) w' r v->Post v w')->(jdgF C.P Post).J σ (Conc.G (Frame.enter C.P f vs.toArray .normal) []) w
theorem yc0{f:FuncId}{fn:Func}{c:Code}{args:List AV}{r:AV}(hf:C.P.funcs[f]?=some fn)(hi:C.P.inits.idxOf? f=none)(hb:fn.body=some c)(hids:zbb args=[])
  (hN:Nat.ble args.length fn.ntmps=true) (h:AW C none fn.ntmps c (λe s=>(e=.normal\/e=.ret)/\zck C s fn.results.toList=some r) (zhk args 0)) (hr:r.ids=[]):Top C f args r:=by
 intro Post imm σ w vs hah hg hrep hP
 rw [Conc.enter_at _ hf hb]
 have h0:=zfh (N:=fn.ntmps) (C:=C) (kah hN) hids hah hg hrep
 have hw:=h Post _ σ _ _ w f (λe σ' a' w'=>(e=.normal\/e=.ret)/\∃s' E',FRel C.G fn.ntmps (fb0 w imm σ.Gb) s' σ' a' w' E'/\zck C s' fn.results.toList=some r) h0 λe s' σ' a' w' E' h1 h2 _=>⟨h1.1,s',E',h2,h1.2⟩
 have hleave:∀σ' a' w' todo,(∃s' E',FRel C.G fn.ntmps (fb0 w imm σ.Gb) s' σ' a' w' E'/\zck C s' fn.results.toList=some r)->(jdgF C.P Post).J σ' (Conc.G { (base f).atR a' todo with mode:=.returning } []) w':=by
  rintro σ' a' w' todo ⟨s',E',hrel,hres⟩;refine z02 hf hi hrel (λσ2 w2 E2 hr2=>⟨?_,?_⟩) todo
  .unfold zck at hres;split at hres
   .rename_i x hx;cases hres
    obtain⟨us,g1,g2,g3⟩:=zem hr2.rel hx;obtain⟨v,us',rfl,hv,hn⟩:=g2.inv;have:us'=[]:=kas hn.1.symm;subst this;exact⟨v,zbw g1,hP _ _ _ (zjs hr2) (za8 (E':=zca _) hv hr λb hb=>zhg hr2 hb)⟩
   .rename_i xs hne hx;cases hres
    obtain⟨us,g1,g2,g3⟩:=zem hr2.rel hx;have hul:us.length≠1:=λh1=>by
     have:=g2.1
     match xs,hne with
     | [],_=>simp at this;omega
     | [x],hne=>exact hne x rfl
     | a::b::l,_=>simp at this;omega
    have:(results fn a'.tmps).run C.P w2=.ok (.tuple us.toArray) w2:=by rw [zbw g1,zg6 hul]
    exact⟨_,this,hP _ _ _ (zjs hr2) (za8 (E':=zca _) (Rep.tup (E:=zca (zqt E2 s')) xs us g2.1 g2.2) hr λb hb=>zhg hr2 hb)⟩
   .cases hres
  .unfold zck at hres;split at hres
   .rename_i x hx;exact zgm hr2.rel hx
   .rename_i xs _ hx;exact zgm hr2.rel hx
   .cases hres
 have:=hw (base f) [] [] rfl oU rfl λe σ' a' w' q=>?_
 .exact this
 .obtain⟨he,q⟩:=q;rcases he with rfl|rfl
  .exact Kp.Jdg.ctl (D:=jdgF C.P Post) rfl rfl rfl (λw1=>Conc.stepG_end (b:=base f)) (hleave σ' a' w' [] q)
  .exact⟨rfl,λtodo=>hleave σ' a' w' todo q⟩
theorem top_by{f:FuncId}{fn:Func}{c:Code}{args:List AV}{r:AV}{N:Nat}(hf:C.P.funcs[f]?=some fn)(hi:C.P.inits.idxOf? f=none)(hb:fn.body=some c)(hN:fn.ntmps=N)(hl:Nat.ble args.length N=true)(hids:zbb args=[])
  (h:AW C none N c (λe s=>(e=.normal\/e=.ret)/\zck C s fn.results.toList=some r) (zhk args 0)) (hr:r.ids=[]):Top C f args r:=by
 subst hN;exact yc0 hf hi hb hids hl h hr
end J
end Go.Ab
