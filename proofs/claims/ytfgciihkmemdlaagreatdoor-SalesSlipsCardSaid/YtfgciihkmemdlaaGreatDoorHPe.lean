/- Pieces of a law about sales. Conditions: none. -/
import Derived.Test.YtfgciihkmemdlaaGreatDoorHPb
import Derived.Test.YtfgciihkmemdlaaGreatDoorHPc
namespace Go.Ab.J
open Go Go.Proofs Go.Kp Go.ChangeShapes Go.WideShapes Go.ChangeAt Go.RowKit
section
variable{H:Type}{enc:TypeId×Value->H}{P:Program}{w:World}{base:Nat}{sp:Nat->Bool}{held:Bool}
theorem ybu(a:Addr)(m n:Nat):(a.add m).add n=a.add (m+n):=by obtain⟨b,o,sp⟩:=a;unfold Addr.add;by_cases h1:m=0<;>by_cases h2:n=0<;>simp [h1,h2,kdb]
theorem z99{α:Type}{n:Nat}{p:Nat->α->Prop}(h:∀i,i<n->∃s,p i s):∃l:List α,l.length=n/\∀i s,l[i]?=some s->p i s:=by
 induction n with
 | zero=>exact⟨[],rfl,λi s hs=>by simp at hs⟩
 | succ n ih =>
   obtain⟨l,h1,h2⟩:=ih λi hi=>h i oc;obtain⟨s,hs⟩:=h n oc;refine⟨l++[s],by simp [h1],λi x hx=>?_⟩;rcases kae i n with hi|hi
   .rw [kam oc] at hx;exact h2 i x hx
   .rw [kao oc] at hx;have:i=n:=by
      have:=(kab.1 hx).1;simp at this;omega
    subst this;rw [h1] at hx;simp at hx;subst hx;exact hs
theorem z2j{a:Addr}{n:Nat}{row:List Value}(h:w.cells? base a n=some row){j:Nat}{v:Value}(hv:row[j]?=some v):w.cell? (a.add j)=some v:=by
 unfold World.cells? at h;split at h
 .have hl:=mapM_some_length h;have hj:j<n:=by
    have:=(kab.1 hv).1;simp at hl;omega
  have:=mapM_some_get h j j (by simp [hj]);rw [this,hv]
 .cases h
theorem zry{α:Type}{t e:TypeId}{wd fuel:Nat}{cs:List Value}{x:DataW H×List MemPlace}(sv:α->List Value)(hc:P.cellsOf e=wd)
  (hrow:∀n cs x,DataW.trod enc P w base sp held n e cs=some x->∃s,cs=sv s) (ht:P.underlying t=some (.slice e)) (h:DataW.trod enc P w base sp held fuel t cs=some x) :
  cs=[.slice none 0 0]\/∃a cap,∃ss:List α,cs=[.slice (some a) ss.length cap]/\∀(i:Nat) s (j:Nat) v,ss[i]?=some s->(sv s)[j]?=some v->w.cell? (a.add (i*wd+j))=some v:=by
 rcases DataW.trod_slice ht h with ⟨hx,_⟩|⟨a,len,cap,elems,rest,n,_,hcs,_,_,_,_,hlen,hel,_⟩
 .exact .inl hx
 .have key:∀i,i<len->∃s:α,w.cells? base (a.add (i*wd)) wd=some (sv s):=λi hi=>by
    have hE:=hel i hi;rw [hc,kaa (show i<elems.length by omega)] at hE;obtain⟨row,h1,h2⟩:=Option.bind_eq_some_iff.1 hE;obtain⟨s,rfl⟩:=hrow _ _ _ h2;exact⟨s,h1⟩
  obtain⟨ss,h1,h2⟩:=z99 key;subst h1;refine .inr ⟨a,cap,ss,hcs,λi s j v hs hv=>?_⟩;have:=z2j (h2 i s hs) hv;rwa [ybu] at this
theorem z5x{t:TypeId}{cs:List Value}{n off:Nat}{y:DataW H×List MemPlace}(hu:P.underlying t=some .bool)(hc:P.cellsOf t=1)(h:DataW.trod enc P w base sp held n t ((cs.drop off).take (P.cellsOf t))=some y):∃k,cs[off]?=some (.bool k):=by
 obtain⟨k,h1,h2⟩:=DataW.trod_bool hu h;rw [hc] at h1;refine⟨k,?_⟩;have:((cs.drop off).take 1)[0]?=some (.bool k):=by rw [h1];rfl
 simpa [ka5,kbb] using this
end
theorem yem:Tryz.prog.cellsOf 31=1:=by kernel_rfl
theorem yei:Tryz.prog.cellsOf 34=1:=by kernel_rfl
theorem c_sk:Tryz.prog.cellsOf 41=1:=by kernel_rfl
theorem yen:Tryz.prog.cellsOf 4=1:=by kernel_rfl
theorem yel:Tryz.prog.cellsOf 33=2:=by kernel_rfl
theorem z8g:Tryz.prog.cellsOf 36=7:=by kernel_rfl
theorem yej:Tryz.prog.cellsOf 68=5:=by kernel_rfl
theorem yeo:Tryz.prog.cellsOf 25=3:=by kernel_rfl
theorem ycv:Tryz.prog.underlying 33=some (.struct (Tryz.prog.fieldsOf 33)):=by kernel_rfl
theorem z7h:Tryz.prog.underlying 25=some (.struct (Tryz.prog.fieldsOf 25)):=by kernel_rfl
theorem ydv:(Tryz.prog.fieldsOf 33).toList.map (λf=>(f.type,f.offset))=[(3,0),(3,1)]:=by kernel_rfl
theorem ydw:(Tryz.prog.fieldsOf 36).toList.map (λf=>(f.type,f.offset))=[(31,0),(3,1),(3,2),(3,3),(33,4),(34,6)]:=by kernel_rfl
theorem f_sum:(Tryz.prog.fieldsOf 68).toList.map (λf=>(f.type,f.offset))=[(41,0),(3,1),(33,2),(4,4)]:=by kernel_rfl
theorem yd1:(Tryz.prog.fieldsOf 25).toList.map (λf=>(f.type,f.offset))=[(3,0),(22,1),(23,2)]:=by kernel_rfl
section
variable{H:Type}{enc:TypeId×Value->H}{w:World}{base:Nat}{sp:Nat->Bool}{held:Bool}
theorem zq7{n off:Nat}{cs:List Value}{y:DataW H×List MemPlace}(h:DataW.trod enc Tryz.prog w base sp held n 33 ((cs.drop off).take (Tryz.prog.cellsOf 33))=some y) :
  ∃a b,cs[off]?=some (.int .i64 a)/\cs[off+1]?=some (.int .i64 b):=by
 obtain⟨_,xs,m,_,_,hel⟩:=zsc ydv ycv h
 obtain⟨y0,_,h0⟩:=hel 0 _ rfl
 obtain⟨y1,_,h1⟩:=hel 1 _ rfl
 obtain⟨a,ha,_⟩:=zed zjd zqh h0
 obtain⟨b,hb,_⟩:=zed zjd zqh h1
 rw [yel] at ha hb
 exact⟨a,b,by simpa [ka5,kbb] using ha,by simpa [ka5,kbb] using hb⟩
theorem zzr(s:Slip):∀v∈zq9 s,v.oneCell'=true:=λv hv=>by simp only [zq9,kat,kb2,or_false] at hv;rcases hv with rfl|rfl|rfl|rfl|rfl|rfl|rfl<;>rfl
theorem z38(s:SumR):∀v∈z7m s,v.oneCell'=true:=λv hv=>by simp only [z7m,kat,kb2,or_false] at hv;rcases hv with rfl|rfl|rfl|rfl|rfl<;>rfl
theorem zzq(s:Slip):s.row=(zq9 s).map .val:=rfl
theorem z37(s:SumR):s.row=(z7m s).map .val:=rfl
theorem zzs(s:Slip):(zq9 s).length=7:=rfl
theorem z39(s:SumR):(z7m s).length=5:=rfl
theorem len7{α:Type}:∀{l:List α},l.length=7->∃a b c d e f g,l=[a,b,c,d,e,f,g]
 | [a,b,c,d,e,f,g],_=>⟨a,b,c,d,e,f,g,rfl⟩
theorem len5{α:Type}:∀{l:List α},l.length=5->∃a b c d e,l=[a,b,c,d,e]
 | [a,b,c,d,e],_=>⟨a,b,c,d,e,rfl⟩
theorem zzp(n:Nat)(cs:List Value)(x:DataW H×List MemPlace)(h:DataW.trod enc Tryz.prog w base sp held n 36 cs=some x):∃s,cs=zq9 s:=by
 obtain⟨hl,xs,m,_,_,hel⟩:=zsc ydw ycw h;obtain⟨y0,_,h0⟩:=hel 0 _ rfl;obtain⟨y1,_,h1⟩:=hel 1 _ rfl;obtain⟨y2,_,h2⟩:=hel 2 _ rfl;obtain⟨y3,_,h3⟩:=hel 3 _ rfl;obtain⟨y4,_,h4⟩:=hel 4 _ rfl;obtain⟨y5,_,h5⟩:=hel 5 _ rfl;obtain⟨a0,e0,_⟩:=zed ycy yem h0;obtain⟨a1,e1,_⟩:=zed zjd zqh h1;obtain⟨a2,e2,_⟩:=zed zjd zqh h2;obtain⟨a3,e3,_⟩:=zed zjd zqh h3;obtain⟨a4,a5,e4,e5⟩:=zq7 h4
 obtain⟨a6,e6,_⟩:=zed yct yei h5;rw [z8g] at hl;obtain⟨v0,v1,v2,v3,v4,v5,v6,rfl⟩:=len7 hl
 .simp at e0 e1 e2 e3 e4 e5 e6;exact⟨⟨a0,a1,a2,a3,a4,a5,a6⟩,by simp [zq9, *]⟩
theorem z36(n:Nat)(cs:List Value)(x:DataW H×List MemPlace)(h:DataW.trod enc Tryz.prog w base sp held n 68 cs=some x):∃s,cs=z7m s:=by
 obtain⟨hl,xs,m,_,_,hel⟩:=zsc f_sum u_sum h;obtain⟨y0,_,h0⟩:=hel 0 _ rfl;obtain⟨y1,_,h1⟩:=hel 1 _ rfl;obtain⟨y2,_,h2⟩:=hel 2 _ rfl;obtain⟨y3,_,h3⟩:=hel 3 _ rfl;obtain⟨a0,e0,_⟩:=zed u_sk c_sk h0;obtain⟨a1,e1,_⟩:=zed zjd zqh h1;obtain⟨a2,a3,e2,e3⟩:=zq7 h2;obtain⟨a4,e4⟩:=z5x z7g yen h3;rw [yej] at hl;obtain⟨v0,v1,v2,v3,v4,rfl⟩:=len5 hl
 .simp at e0 e1 e2 e3 e4;exact⟨⟨a0,a1,a2,a3,a4⟩,by simp [z7m, *]⟩
end
theorem zx7{w:World}{b:Nat}(h:zd0 w b):b<w.heap.size:=by obtain⟨c,t,f,h⟩:=h;exact(kad.1 h).1
theorem zt7{P:Program}{w:World}{r:Reach}{base:Nat}{a:Addr}{e:TypeId}{n:Nat}(h:w.has P r base a e n):a.spot=none/\zd0 w a.block:=by
 obtain⟨_,h1,row,cells,h2,_⟩:=h;refine⟨h1,?_⟩;unfold World.shape? at h2;split at h2
 .exact⟨_,_,_,‹_›⟩
 .cases h2
theorem z4q{α:Type}{w:World}{wd:Nat}{a:Addr}{cap:Nat}{ss:List α}(row:α->List AV)(sv:α->List Value)(hr:∀s,row s=(sv s).map .val)(hw:∀s,(sv s).length=wd)(ho:∀s,∀v∈sv s,v.oneCell'=true)(ha:a.spot=none)(hb:zd0 w a.block)
  (h:∀(i:Nat) s (j:Nat) v,ss[i]?=some s->(sv s)[j]?=some v->w.cell? (a.add (i*wd+j))=some v) (hcap:ss.length<=cap):Rep (zca (zd0 w)) w (.sl wd (ss.map row)) (.slice (some a) ss.length cap):=by
 obtain⟨b,o,sp⟩:=a
 obtain rfl:sp=none:=ha
 have e:(.slice (some ⟨b,o,none⟩) ss.length cap:Value)=.slice (some ⟨b,o,none⟩) (ss.map row).length cap:=od
 rw [e]
 have key:∀(i:Nat) r (j:Nat) x,(ss.map row)[i]?=some r->r[j]?=some x->∃s v,ss[i]?=some s/\(sv s)[j]?=some v/\x=.val v:=λi r j x h1 h2=>by rw [kaq] at h1;obtain⟨s,h3,rfl⟩:=kan.1 h1;rw [hr,kaq] at h2;obtain⟨v,h4,rfl⟩:=kan.1 h2;exact⟨s,v,h3,h4,rfl⟩
 have gv:∀(i:Nat) s (j:Nat) v,ss[i]?=some s->(sv s)[j]?=some v->(((ss[i]?).map sv).getD []).getD j default=v:=λi s j v h1 h2=>by rw [h1];show(sv s).getD j default=v;rw [kai,h2];rfl
 refine Rep.sl wd (ss.map row) b o cap (λi j=>(((ss[i]?).map sv).getD []).getD j default) hb (λr hr'=>?_) (λi r j x h1 h2=>?_) (λi r j x h1 h2=>?_) (oa hcap)
 .obtain⟨s,_,rfl⟩:=kav.1 hr';rw [hr,ka6,hw]
 .obtain⟨s,v,h3,h4,rfl⟩:=key i r j x h1 h2;refine⟨rfl,ho s v (kag h4),?_⟩;rw [gv i s j v h3 h4];have:=h i s j v h3 h4;rwa [add_none,<-Nat.add_assoc] at this
 .obtain⟨s,v,h3,h4,rfl⟩:=key i r j x h1 h2;rw [gv i s j v h3 h4];exact .val v
theorem yba:(Tryz.prog.cellTypes Tryz.prog.depth 25)=some [3,22,23]:=by kernel_rfl
theorem zy5:Tryz.prog.underlying 22=some (.slice 36):=by kernel_rfl
theorem z7f:Tryz.prog.underlying 23=some (.slice 68):=by kernel_rfl
theorem zrh{α:Type}{P:Program}{w:World}{r:Reach}{base:Nat}{t e:TypeId}{c:Value}{wd:Nat}(row:α->List AV)(sv:α->List Value)(hr:∀s,row s=(sv s).map .val)(hw:∀s,(sv s).length=wd)(ho:∀s,∀v∈sv s,v.oneCell'=true)
  (hu:P.underlying t=some (.slice e)) (hok:Cell.okWide P w r base t c)
  (h:[c]=[.slice none 0 0]\/∃a cap,∃ss:List α,[c]=[.slice (some a) ss.length cap]/\∀(i:Nat) s (j:Nat) v,ss[i]?=some s->(sv s)[j]?=some v->w.cell? (a.add (i*wd+j))=some v) :
  ∃ss:List α,Rep (zca (zd0 w)) w (.sl wd (ss.map row)) c:=by
 rcases h with h|⟨a,cap,ss,h1,h2⟩
 .simp at h;subst h;exact⟨[],.nil _⟩
 .simp at h1;subst h1;unfold Cell.okWide at hok;rw [hu] at hok;unfold Cell.ok at hok;rw [hu] at hok;obtain⟨ha,hb⟩:=zt7 hok.2.2;exact⟨ss,z4q row sv hr hw ho ha hb h2 (by first|exact hok.1|exact hok.2.1|omega)⟩
set_option maxRecDepth 20000 in
theorem z2o{H:Type}{enc:TypeId×Value->H}{w:World}{sp:Nat->Bool}{held:Bool}{base:Nat}{v:Value}{d:DataW H}{p:List MemPlace}(hok:Value.okWide Tryz.prog w .any base 25 v)
  (h:DataW.Trod enc Tryz.prog w 0 sp held 25 v d p):∃most ss ms,Rep (zca (zd0 w)) w (bk most ss ms) v:=by
 unfold Value.okWide at hok
 rw [z7h] at hok
 obtain⟨cs,rfl,hsz,ts,hts,_,hcell⟩:=hok
 obtain rfl:=kaw (yba.symm.trans hts)
 obtain⟨fuel,h⟩:=h
 obtain⟨hl,xs,m,_,_,hel⟩:=zsc yd1 z7h h
 rw [yeo] at hl
 obtain⟨y0,_,h0⟩:=hel 0 _ rfl
 obtain⟨y1,_,h1⟩:=hel 1 _ rfl
 obtain⟨y2,_,h2⟩:=hel 2 _ rfl
 obtain⟨a0,e0,_⟩:=zed zjd zqh h0
 obtain⟨l⟩:=cs
 simp only [Value.cells] at hl e0 h1 h2
 obtain⟨c0,c1,c2,rfl⟩:=len3 hl
 .simp at e0;subst e0;have c1t:Tryz.prog.cellsOf 22=1:=by kernel_rfl
  have c2t:Tryz.prog.cellsOf 23=1:=by kernel_rfl
  simp only [c1t,c2t,List.drop_succ_cons,List.drop_zero,kdm,kd5] at h1 h2;obtain⟨u1,k1,k2⟩:=hcell 1 c1 rfl;obtain⟨u2,k3,k4⟩:=hcell 2 c2 rfl;obtain rfl:22=u1:=oa k1
  obtain rfl:23=u2:=oa k3
  obtain⟨ss,r1⟩:=zrh (wd:=7) Slip.row zq9 zzq zzs zzr zy5 k2 (zry zq9 z8g zzp zy5 h1);obtain⟨ms,r2⟩:=zrh (wd:=5) SumR.row z7m z37 z39 z38 z7f k4 (zry z7m yej z36 z7f h2);refine⟨a0,ss,ms,Rep.agg _ [_,c1,c2] rfl λi x v hx hv=>?_⟩;have:=((yf1.nil (zca (zd0 w)) w).cons r2).cons r1 |>.cons (Rep.val (.int .i64 a0))
  exact this.2 i x v hx hv
end Go.Ab.J
