/- What all laws about sales rest on, beside any goroutines. Conditions: none. -/
import Derived.Test.YtfgciihkmemdlaaGreatDoorZh
import Derived.Test.YtfgciihkmemdlaaGreatDoorProg
namespace Go.Ab
open Go Go.RowKit Go.Kp
open Go.ConcM (OsLater)
variable{N:Nat}{F0:FB}{s s':AS}{σ σ':FSt}{a a':Act}{w w':World}{E E':Env}{C:Cx}
theorem zk2{args:List AV}(i:Nat):zac (zhk args 0) (2*i+1)=none:=by
 cases h:zac (zhk args 0) (2*i+1) with
 | none=>rfl
 | some c=>obtain⟨j,x,_,h2,_⟩:=zdw h;omega
namespace J
open Go.Kp (FSt jdgF WpR OpsR)
open Go.Conc (base)
def fb0(w:World)(imm Gb:Nat->Prop):FB:=⟨w,w.heap.size,imm,Gb,λb=>b<w.heap.size/\¬imm b/\¬Gb b⟩
theorem zfh{imm:Nat->Prop}{vs:List Value}{args:List AV}(hN:args.length<=N)(hids:zbb args=[])(h1:zs7 imm σ w)(hg:zb3 C.G (zca imm) w)(hr:yf1 (zca imm) w args vs) :
  FRel C.G N (fb0 w imm σ.Gb) (zhk args 0) σ { tmps:=vs.toArray++Array.replicate (N-vs.toArray.size) undef,defers:=[] } w (zca imm):=by
 have h0:=zz5 hN hids h1.lt hg hr
 refine⟨h0.at (kac _) (λ_ _=>rfl) rfl rfl rfl (λ_ h=>h) λ_ h=>.inl h,λb hb=>?_,h1.bd,h1.gs,h1.near,λb o hb _ ho=>?_,kac _,kac _,λb hb=>⟨hb.elim (λh=>h.1) (h1.lt b),rfl,λ⟨i,hi⟩=>(by rw [zk2] at hi;cases hi),λhD=>(by cases hD),hb.elim (λh=>h.2.2) (h1.gb b)⟩,λb hb=>(by cases hb),λb hb hF=>hF.2.1 hb,λb=>⟨id,λ_=>id⟩,OsLater.refl _,rfl⟩
 .rcases hb with hb|⟨i,hi⟩|hb
  .exact h1.gb b hb
  .rw [zk2] at hi;cases hi
  .cases hb
 .have:=(kad.1 ho).1;have hb:w.heap.size<=b:=hb;omega
theorem zjs{imm:Nat->Prop}{σ0:FSt}{w0:World}(h:FRel C.G N (fb0 w0 imm σ0.Gb) s σ a w E):ycl σ0 w0 ⟨σ.Gb,w.heap.size⟩ w :=
 ⟨h.size,λb hb hg=>(h.keep b (by by_cases hi:imm b;exact .inr hi;exact .inl ⟨hb,hi,hg⟩)).2.1,h.os,h.out,kac _,h.gs,h.gbO,h.nearN⟩
theorem zhg{imm:Nat->Prop}{σ0:FSt}{w0:World}(h:FRel C.G N (fb0 w0 imm σ0.Gb) s σ a w E){b:Nat}(hb:zqt E s b):imm b\/z96 w0 w ⟨σ.Gb,w.heap.size⟩ (λ_=>True) b:=by
 have hlt:=h.rel.immT_lt b hb;rcases kae b w0.heap.size with h1|h1
 .rcases hb with hb|hb
  .exact .inl (Classical.not_not.1 λhn=>h.immO b hb ⟨h1,hn,λhg=>h.avoid b (.inl hb) ((h.gbO b).1 hg)⟩)
  .have:w0.heap.size<=b:=h.heldN hb;omega
 .exact .inr ⟨h1,hlt,hb.elim (λh2=>h.avoid b (.inl h2)) λh2=>h.avoid b (.inr (.inl h2)),trivial⟩
theorem zfb{f:FuncId}{fn:Func}{Post:Value->World->Prop}{c:Frame}{cs:List Frame}{R:FSt->Value->World->Prop}(hf:C.P.funcs[f]?=some fn)(hJ:∀σ' v w',R σ' v w'->(jdgF C.P Post).J σ' (Conc.G (c.finish v) cs) w')(_hm:∀v,(c.finish v).mode=.run)
  (h:FRel C.G N F0 s σ a w E) (_hpt:∀b t,ResultVar.cell b t∈fn.results.toList->PtA (inA E s w) (a.tmps.getD b undef)\/True) (hres:∀σ w E,FRel C.G N F0 s σ { a with defers:=[] } w E->(∃v,(results fn a.tmps).run C.P w=.ok v w/\R ⟨σ.Gb,w.heap.size⟩ v w)/\∀b t,ResultVar.cell b t∈fn.results.toList->PtA (inA E s w) (a.tmps.getD b undef))
  (todo:List Item):(jdgF C.P Post).J σ (Conc.G { (base f).atR a todo with mode:=.returning } (c::cs)) w:=by
 refine zpr E.dfs { (base f).atR a todo with mode:=.returning } rfl rfl rfl h rfl λσ2 w2 E2 hr2 _=>?_
 refine(jdgF C.P Post).step rfl rfl λw1 hs=>?_
 obtain⟨d,rfl⟩:=hs
 have hr3:=hr2.drew d
 obtain⟨⟨v,k1,k2⟩,k3⟩:=hres σ2 _ _ hr3
 obtain⟨rs,new,g1,g2,_⟩:=ft_run (A:=inA E2 s (w2.at d)) (P:=C.P) _ (zok fn a.tmps k3) (w2.at d) #[] hr3.nearA λb hb=>.inr (.inr hb)
 have e1:rs=.ok v (w2.at d):=by have:=Sem.runT_fst C.P (results fn a.tmps) (w2.at d) #[];rw [g1] at this;exact this.trans k1
 subst e1
 rw [kcf] at g1
 refine⟨Conc.G (c.finish v) cs,w2.at d,seen C.P f new,⟨σ2.Gb,(w2.at d).heap.size⟩,?_,?_,⟨λ_ h=>h,hr3.bd,λe he=>zjx (λb hb=>hr3.inA hb) (g2.evs e (seen_sub he))⟩,hJ _ _ _ k2⟩
 .have e2:=zrq (P:=C.P) (fr:=Frame.mk f a.tmps todo [] .returning .normal none) (fn:=fn) (cs:=c::cs) (w:=w2.at d) rfl rfl hf;rw [show(Frame.mk f a.tmps todo [] .returning .normal none).tmps=a.tmps from rfl,g1] at e2;refine Eq.trans e2 ?_;simp [doReturn,GStep.after,Conc.G]
 .rfl
theorem z8m {f : FuncId} {fn : Func} {c : Code} {args : List AV} {r : AV} (hf : C.P.funcs[f]? = some fn) (hb : fn.body = some c) (hn : (fn.name == "runtime.NumGoroutine") = false) (hN : Nat.ble args.length fn.ntmps = true) (hids : zbb args = [])
  (h:AW C none fn.ntmps c (λe s=>(e=.normal\/e=.ret)/\zck C s fn.results.toList=some r) (zhk args 0)) (hr:r.ids=[]):AFn C f args r:=by
 refine⟨hr,by simp [zdc,hf,hn,hb],λPost imm σ w vs hah hg hrep b cs hm hJ=>?_⟩
 rw [Conc.enter_at _ hf hb]
 have h0:=zfh (N:=fn.ntmps) (C:=C) (kah hN) hids hah hg hrep
 have hw:=h Post _ σ _ _ w f (λe σ' a' w'=>(e=.normal\/e=.ret)/\∃s' E',FRel C.G fn.ntmps (fb0 w imm σ.Gb) s' σ' a' w' E'/\zck C s' fn.results.toList=some r) h0 λe s' σ' a' w' E' h1 h2 _=>⟨h1.1,s',E',h2,h1.2⟩
 have hleave:∀σ' a' w' todo,(∃s' E',FRel C.G fn.ntmps (fb0 w imm σ.Gb) s' σ' a' w' E'/\zck C s' fn.results.toList=some r)->(jdgF C.P Post).J σ' (Conc.G { (base f).atR a' todo with mode:=.returning } (b::cs)) w':=by
  rintro σ' a' w' todo ⟨s',E',hrel,hres⟩;refine zfb hf hJ hm hrel (λ_ _ _=>.inr trivial) (λσ2 w2 E2 hr2=>⟨?_,?_⟩) todo
  .unfold zck at hres;split at hres
   .rename_i x hx;cases hres
    obtain⟨us,g1,g2,g3⟩:=zem hr2.rel hx;obtain⟨v,us',rfl,hv,hn⟩:=g2.inv;have:us'=[]:=kas hn.1.symm;subst this;exact⟨v,zbw g1,zjs hr2,za8 (E':=zca _) hv hr λb hb=>zhg hr2 hb⟩
   .rename_i xs hne hx;cases hres
    obtain⟨us,g1,g2,g3⟩:=zem hr2.rel hx;have hul:us.length≠1:=λh1=>by
     have:=g2.1
     match xs,hne with
     | [],_=>simp at this;omega
     | [x],hne=>exact hne x rfl
     | a::b::l,_=>simp at this;omega
    have:(results fn a'.tmps).run C.P w2=.ok (.tuple us.toArray) w2:=by rw [zbw g1,zg6 hul]
    exact⟨_,this,zjs hr2,za8 (E':=zca _) (Rep.tup (E:=zca (zqt E2 s')) xs us g2.1 g2.2) hr λb hb=>zhg hr2 hb⟩
   .cases hres
  .unfold zck at hres;split at hres
   .rename_i x hx;exact zgm hr2.rel hx
   .rename_i xs _ hx;exact zgm hr2.rel hx
   .cases hres
 have:=hw (base f) [] (b::cs) rfl oU rfl λe σ' a' w' q=>?_
 .exact this
 .obtain⟨he,q⟩:=q;rcases he with rfl|rfl
  .exact Kp.Jdg.ctl (D:=jdgF C.P Post) rfl rfl rfl (λw1=>Conc.stepG_end (b:=base f)) (hleave σ' a' w' [] q)
  .exact⟨rfl,λtodo=>hleave σ' a' w' todo q⟩
end J
end Go.Ab
namespace Go.Ab.J
open Go Go.RowKit
section kindf
variable{C:Cx}{R:List Nat}{s:AS}{d:Option Nat}{ty:TypeId}{pos:String}{af:Array Edge}{g:Option (Nat×Bool)}{x y z:Operand}{t t':TypeId}
theorem zk8(h:AFt C ⟨d,.store t x y,ty,pos,af,g⟩ R s):AFt C ⟨d,.store t x y,ty,pos,af,g⟩ R s:=h
theorem zps(h:AFt C ⟨d,.load t x,ty,pos,af,g⟩ R s):AFt C ⟨d,.load t x,ty,pos,af,g⟩ R s:=h
theorem zv5{o:BinOp}(h:AFt C ⟨d,.binOp o t x y t',ty,pos,af,g⟩ R s):AFt C ⟨d,.binOp o t x y t',ty,pos,af,g⟩ R s:=h
theorem zk9{f:Nat}(h:AFt C ⟨d,.fieldAddr t x f,ty,pos,af,g⟩ R s):AFt C ⟨d,.fieldAddr t x f,ty,pos,af,g⟩ R s:=h
theorem kf_un{o:UnOp}(h:AFt C ⟨d,.unOp o t x,ty,pos,af,g⟩ R s):AFt C ⟨d,.unOp o t x,ty,pos,af,g⟩ R s:=h
theorem ylx(h:AFt C ⟨d,.convert t t' x,ty,pos,af,g⟩ R s):AFt C ⟨d,.convert t t' x,ty,pos,af,g⟩ R s:=h
theorem zpt{c:Call}(h:AFt C ⟨d,.call c,ty,pos,af,g⟩ R s):AFt C ⟨d,.call c,ty,pos,af,g⟩ R s:=h
end kindf
section drive
variable{C:Cx}{r:Option Nat}{N:Nat}{ops rest:List Oper}{dr:Bool}{K:AS->Prop}{o:Oper}{acc:List (List Nat×List Nat)}{R:List Nat}{s:AS}{k k2 k3:Nat}{c c2 c3:za7}
theorem zg2(hg:o.guard=none)(h:AOpJ C N o R s [(k,c)])(next:ADr C N ops dr K rest ((R,[k])::acc) ((k,c)::s)):ADr C N ops dr K (o::rest) acc s :=
 ⟨R,[(k,c)],by unfold zek;rw [hg];exact h,next⟩
theorem z8n(hg:o.guard=none)(h:AOpJ C N o R s [(k,c),(k2,c2)])(next:ADr C N ops dr K rest ((R,[k,k2])::acc) ((k,c)::(k2,c2)::s)):ADr C N ops dr K (o::rest) acc s :=
 ⟨R,[(k,c),(k2,c2)],by unfold zek;rw [hg];exact h,next⟩
theorem ybp{j t:Nat}{want:Bool}{u:AS}(hg:o.guard=some (j,want))(ht:((ops.toArray)[j]?).bind (·.dst)=some t)(hl:zac s (2*t)=some (.av (.val (.bool want))))(h:AOpJ C N o R s u):zek C N ops.toArray o (2*t::R) s u:=by unfold zek;rw [hg];exact⟨t,.bool want,ht,hl,od,.inl ⟨rfl,h.sub λr hr=>by simp [hr]⟩⟩
theorem adr_f{j t d:Nat}{want:Bool}(hg:o.guard=some (j,want))(ht:((ops.toArray)[j]?).bind (·.dst)=some t)(hl:zac s (2*t)=some (.av (.val (.bool (!want)))))(hd:o.dst=some d)(hN:d<N)
  (next:ADr C N ops dr K rest (([2*t],[2*d])::acc) ((2*d,.av (.val undef))::s)):ADr C N ops dr K (o::rest) acc s :=
 ⟨[2*t],[(2*d,.av (.val undef))],by unfold zek;rw [hg];exact⟨t,.bool !want,ht,hl,od,.inr ⟨by cases want<;>simp,d,hd,hN,rfl⟩⟩,next⟩
theorem adr_u{j t d:Nat}{want:Bool}(hg:o.guard=some (j,want))(ht:((ops.toArray)[j]?).bind (·.dst)=some t)(hl:zac s (2*t)=some (.av (.val undef)))(hd:o.dst=some d)(hN:d<N)
  (next:ADr C N ops dr K rest (([2*t],[2*d])::acc) ((2*d,.av (.val undef))::s)):ADr C N ops dr K (o::rest) acc s :=
 ⟨[2*t],[(2*d,.av (.val undef))],by unfold zek;rw [hg];exact⟨t,undef,ht,hl,od,.inr ⟨by simp [undef],d,hd,hN,rfl⟩⟩,next⟩
theorem zlw{P:AS->Prop}{Q:Exit->AS->Prop}(h:P s):zii P Q .normal s:=h
theorem zvd{P:AS->Prop}{Q:Exit->AS->Prop}(h:Q .ret s):zii P Q .ret s:=h
theorem zq4{P:AS->Prop}{Q:Exit->AS->Prop}{i:Nat}(h:Q (.exit i) s):zii P Q (.exit i) s:=h
theorem znp{n:Int}(h1:-9223372036854775808<=n)(h2:n<=9223372036854775807):inI .i64 n:=by unfold inI;simp only [IntKind.wrap];first|omega|(simp [IntKind.bits,IntKind.signed];omega)
end drive
theorem zag {C : Cx} {f : FuncId} {fn : Func} {c : Code} {args : List AV} {r : AV} {N : Nat} (hf : C.P.funcs[f]? = some fn) (hb : fn.body = some c) (hN : fn.ntmps = N) (hn : (fn.name == "runtime.NumGoroutine") = false) (hl : Nat.ble args.length N = true) (hids : zbb args = [])
  (h:AW C none N c (λe s=>(e=.normal\/e=.ret)/\zck C s fn.results.toList=some r) (zhk args 0)) (hr:r.ids=[]):AFn C f args r:=by
 subst hN;exact z8m hf hb hn hl hids h hr
section kind
variable{C:Cx}{r:Option Nat}{N:Nat}{R:List Nat}{s u:AS}{d:Nat}{ty:TypeId}{pos:String}{af:Array Edge}{g:Option (Nat×Bool)}
theorem k_aw{c:Code}{Q:Exit->AS->Prop}(h:AW C r N c Q s):AW C r N c Q s:=h
theorem ydl{ops:List Oper}{dr:Bool}{K:AS->Prop}{l:List Oper}{acc:List (List Nat×List Nat)}(h:ADr C N ops dr K l acc s):ADr C N ops dr K l acc s:=h
theorem ybl{c e:Code}{Q:Exit->AS->Prop}(h:∀P:AS->Prop,(∀s,AW C r N e Q s->P s)->AW C r N c (zii P Q) s):AW C r N (.seq c e) Q s:=z8i (h _ λ_ h=>h)
theorem z2u{c:Code}{i:Nat}{Q:Exit->AS->Prop}(h:∀Q':Exit->AS->Prop,(∀s,Q .normal s->Q' .normal s)->(∀s,Q .normal s->Q' (.exit i) s)->(∀s,Q .ret s->Q' .ret s)->(∀j s,Nat.beq j i=false->Q (.exit j) s->Q' (.exit j) s)->AW C r N c Q' s):AW C r N (.block i c) Q s :=
 z6s (h _ (λ_ h=>h) (λs h=>by simp only [zww,Nat.beq_refl,cond_true];exact h) (λ_ h=>h) λj s hb h=>by simp only [zww,hb,cond_false];exact h)
theorem zab{c:Code}{Q:Exit->AS->Prop}(h:∀Q':Exit->AS->Prop,(∀e s,Q e s->Q' e s)->AW C r N c Q' s):AW C r N c Q s:=h Q λ_ _ h=>h
end kind
theorem ydu{C:Cx}{s:AS}{rs:List ResultVar}{x y:AV}(h:zck C s rs=some x)(e:x=y):(Exit.ret=Exit.normal\/Exit.ret=Exit.ret)/\zck C s rs=some y:=⟨.inr rfl,e▸h⟩
theorem zam{C:Cx}{r:Option Nat}{N:Nat}{c:Code}{Q:Exit->AS->Prop}{s:AS}(n:Nat)(St:Nat->AS)(h0:Sub C.G N s (St 0))(h:∀i,i<=n->AW C r N c (zii (λs'=>i<n/\Sub C.G N s' (St (i+1))) Q) (St i)):AW C r N (.loop c) Q s :=
 z2s (ι:={i:Nat // i<=n}) (λi=>St i.1) (λi=>n-i.1) ⟨0,kb6 _⟩ h0 λi=>zqk (h i.1 i.2) λe s' hq=>by
  cases e with
  | normal=>exact⟨⟨i.1+1,hq.1⟩,hq.2,by have:=hq.1;simp only;omega⟩
  | _=>exact hq
theorem zbe{C:Cx}{r:Option Nat}{N:Nat}{c:Code}{Q:Exit->AS->Prop}{s:AS}(n:Nat)(P:Nat->Prop)(St:Nat->AS)(hP:P 0)(h0:Sub C.G N s (St 0))(h:∀i,i<=n->P i->AW C r N c (zii (λs'=>i<n/\P (i+1)/\Sub C.G N s' (St (i+1))) Q) (St i)):AW C r N (.loop c) Q s :=
 z2s (ι:={i:Nat // i<=n/\P i}) (λi=>St i.1) (λi=>n-i.1) ⟨0,kb6 _,hP⟩ h0 λi=>zqk (h i.1 i.2.1 i.2.2) λe s' hq=>by
  cases e with
  | normal=>exact⟨⟨i.1+1,hq.1,hq.2.1⟩,hq.2.2,by have:=hq.1;simp only;omega⟩
  | _=>exact hq
section
variable{C:Cx}{r:Option Nat}{N:Nat}{ops rest:List Oper}{dr:Bool}{K:AS->Prop}{o:Oper}{acc:List (List Nat×List Nat)}{R G:List Nat}{s:AS}{k k2 k3 j t d:Nat}{c c2 c3:za7}{want e:Bool}
theorem znq{u:AS}(hg:Gd ops o s G)(h:AOpJ C N o R s u):zek C N ops.toArray o (G++R) s u:=by
 rcases hg with ⟨hg,rfl⟩|⟨j,t,want,hg,ht,hl,rfl⟩
 .unfold zek;rw [hg];exact h
 .exact ybp hg ht hl h
theorem ao1{G:Prop}(h:G:=by(first|((with_reducible apply z8r);(case hd=>decide);(case hx=>exact rfl))|((with_reducible apply zxj);(case hd=>decide);(case hx=>exact rfl))|((with_reducible apply z71);(first|((with_reducible apply z28);(case hd=>decide);(case hc=>exact rfl);(case hx=>exact rfl))|((with_reducible apply z29);(case hd=>decide);(case hc=>exact rfl);(case hx=>exact rfl))))|((with_reducible apply z07);(first|((with_reducible apply z3h);(case hd=>decide);(case hx=>exact rfl);(case hf=>exact rfl))|((with_reducible apply zxi);(case hd=>decide);(case hx=>exact rfl);(case hf=>exact rfl))|((with_reducible apply zxg);(case hd=>decide);(case hx=>exact rfl);(case hf=>exact rfl))|((with_reducible apply zxh);(case hd=>decide);(case hx=>exact rfl);(case hf=>exact rfl))))|((with_reducible apply z72);(first|((with_reducible apply z8s);(case hd=>decide);(case hx=>exact rfl);(case hl=>exact rfl);(case ht=>exact rfl);(case ha=>exact rfl);(case hz=>first|exact rfl|assumption))|((with_reducible apply z3e);(case hd=>decide);(case hx=>exact rfl);(case hl=>exact rfl);(case ht=>exact rfl);(case ha=>exact rfl);(case hz=>exact rfl))|((with_reducible apply z3d);(case hd=>decide);(case hx=>exact rfl);(case ht=>exact rfl);(case ha=>exact rfl);(case hn=>first|exact rfl|assumption);(case hz=>first|exact rfl|assumption))|((with_reducible apply zxb);(case hd=>decide);(case hx=>exact rfl);(case ht=>exact rfl);(case ha=>exact rfl);(case hn=>first|exact rfl|assumption);(case hz=>exact rfl))|((with_reducible apply z3c);(case hd=>decide);(case hx=>exact rfl);(case hl=>exact rfl);(case hw=>exact rfl);(case ht=>exact rfl);(case ha=>exact rfl);(case hn=>first|exact rfl|assumption);(case hz=>first|exact rfl|assumption))|((with_reducible apply a_loadOA);(case hd=>decide);(case hx=>exact rfl);(case hl=>exact rfl);(case hw=>exact rfl);(case ht=>exact rfl);(case ha=>exact rfl);(case hn=>first|exact rfl|assumption);(case hz=>exact rfl))|((with_reducible apply znb);(case hd=>decide);(case hx=>exact rfl);(case hl=>exact rfl);(case ht=>exact rfl);(case ha=>exact rfl);(case hz=>first|exact rfl|assumption))|((with_reducible apply zxa);(case hd=>decide);(case hx=>exact rfl);(case hl=>exact rfl);(case ht=>exact rfl);(case ha=>exact rfl);(case hz=>first|assumption|decide|omega|(simp;done)|(simp;omega)|exact kah rfl))))|((with_reducible apply k_bin);(first|((with_reducible apply a_lss);(case hd=>decide);(case hx=>exact rfl);(case hy=>exact rfl))|((with_reducible apply a_leq);(case hd=>decide);(case hx=>exact rfl);(case hy=>exact rfl))|((with_reducible apply a_gtr);(case hd=>decide);(case hx=>exact rfl);(case hy=>exact rfl))|((with_reducible apply a_geq);(case hd=>decide);(case hx=>exact rfl);(case hy=>exact rfl))|((with_reducible apply a_eql);(case hd=>decide);(case hx=>exact rfl);(case hy=>exact rfl))|((with_reducible apply a_neq);(case hd=>decide);(case hx=>exact rfl);(case hy=>exact rfl))|((with_reducible apply z8u);(case hd=>decide);(case hx=>exact rfl);(case hy=>exact rfl);(case hu=>kernel_rfl))|((with_reducible apply z8p);(case hd=>decide);(case hx=>exact rfl);(case hy=>exact rfl);(case hu=>kernel_rfl))|((with_reducible apply z8v);(case hd=>decide);(case hx=>exact rfl);(case hy=>exact rfl);(case hu=>kernel_rfl))|((with_reducible apply z8q);(case hd=>decide);(case hx=>exact rfl);(case hy=>exact rfl);(case hu=>kernel_rfl))|((with_reducible apply a_beq);(case hd=>decide);(case ht=>exact rfl);(case hs=>exact rfl);(case hx=>exact rfl);(case hy=>exact rfl))|((with_reducible apply a_bne);(case hd=>decide);(case ht=>exact rfl);(case hs=>exact rfl);(case hx=>exact rfl);(case hy=>exact rfl))|((with_reducible apply a_add);(case hd=>decide);(case hx=>exact rfl);(case hy=>exact rfl);(case h=>exact znp oc oc))|((with_reducible apply yex);(case hd=>decide);(case hx=>exact rfl);(case hy=>exact rfl);(case h=>exact znp oc oc))|((with_reducible apply a_mul);(case hd=>decide);(case hx=>exact rfl);(case hy=>exact rfl);(case h=>exact znp oc oc))|((with_reducible apply a_rem);(case hd=>decide);(case hx=>exact rfl);(case hy=>exact rfl);(case h0=>first|assumption|decide|omega|(simp;done)|(simp;omega)|exact kah rfl))|((with_reducible apply a_quo);(case hd=>decide);(case hx=>exact rfl);(case hy=>exact rfl);(case h0=>first|assumption|decide|omega|(simp;done)|(simp;omega)|exact kah rfl);(case h=>exact znp oc oc))|((with_reducible apply a_shr0);(case hd=>decide);(case hx=>exact rfl);(case hy=>exact rfl);(case h0=>first|assumption|decide|omega|(simp;done)|(simp;omega)|exact kah rfl))|((with_reducible apply a_and0);(case hd=>decide);(case hx=>exact rfl);(case hy=>exact rfl))))|((with_reducible apply a_not);(case hd=>decide);(case hx=>exact rfl))|((with_reducible apply zs4);(case hd=>decide);(case hx=>exact rfl);(case hi=>exact rfl))|((with_reducible apply z06);(first|((with_reducible apply z3g);(case hd=>decide);(case hx=>exact rfl);(case hy=>exact rfl);(case ht=>exact rfl);(case hq=>first|exact rfl|assumption);(case hn=>first|assumption|decide|omega|(simp;done)|(simp;omega)|exact kah rfl))|((with_reducible apply zxd);(case hd=>decide);(case hx=>exact rfl);(case hl=>exact rfl);(case hy=>exact rfl);(case ht=>exact rfl);(case hq=>first|exact rfl|assumption);(case hn=>first|assumption|decide|omega|(simp;done)|(simp;omega)|exact kah rfl))|((with_reducible apply a_iaddrZ);(case hd=>decide);(case hx=>exact rfl);(case hl=>exact rfl);(case hy=>exact rfl);(case ht=>exact rfl);(case hq=>first|exact rfl|assumption);(case hn=>first|assumption|decide|omega|(simp;done)|(simp;omega)|exact kah rfl))|((with_reducible apply zxc);(case hd=>decide);(case hx=>exact rfl);(case hy=>exact rfl);(case ht=>exact rfl);(case hq=>first|exact rfl|assumption);(case hn=>first|assumption|decide|omega|(simp;done)|(simp;omega)|exact kah rfl))|((with_reducible apply zxf);(case hd=>decide);(case hx=>exact rfl);(case hy=>exact rfl);(case ht=>exact rfl);(case hq=>first|exact rfl|assumption);(case hn=>first|assumption|decide|omega|(simp;done)|(simp;omega)|exact kah rfl))|((with_reducible apply zxe);(case hd=>decide);(case hx=>exact rfl);(case hy=>exact rfl);(case ht=>exact rfl);(case hq=>first|exact rfl|assumption);(case hn=>first|assumption|decide|omega|(simp;done)|(simp;omega)|exact kah rfl))))|((with_reducible apply zv6);(first|((with_reducible apply a_len);(case hd=>decide);(case hx=>exact rfl);(case ht=>exact rfl))|((with_reducible apply z8t);(case hd=>decide);(case hx=>exact rfl);(case hl=>exact rfl);(case ht=>exact rfl))|((with_reducible apply a_lenN);(case hd=>decide);(case hx=>exact rfl);(case ht=>exact rfl))|((with_reducible apply a_max);(case hd=>decide);(case hx=>exact rfl);(case hy=>exact rfl))|((with_reducible apply a_min);(case hd=>decide);(case hx=>exact rfl);(case hy=>exact rfl))|((with_reducible apply z3l);(case hd=>decide);(case hx=>exact rfl);(case hc=>exact rfl);(case hy=>exact rfl);(case hi=>exact rfl);(case hf=>first|assumption))))|((with_reducible apply z3j);(case hd=>decide);(case ht=>exact rfl);(case ht2=>exact rfl);(case hx=>exact rfl);(case hn=>exact znp oc oc))|((with_reducible apply z05);(first|((with_reducible apply zw9);(case hx=>exact rfl);(case hl=>exact rfl);(case hy=>exact rfl);(case ht=>exact rfl);(case hz=>exact rfl);(case ha=>exact rfl);(case ho=>first|assumption|decide|omega|(simp;done)|(simp;omega)|exact kah rfl))|((with_reducible apply zuw);(case hx=>exact rfl);(case hl=>exact rfl);(case hy=>exact rfl);(case hc=>exact rfl);(case ht=>exact rfl);(case hz=>exact rfl);(case ho=>exact rfl);(case ha=>exact rfl))|((with_reducible apply zw8);(case hx=>exact rfl);(case hl=>exact rfl);(case hn=>first|exact rfl|assumption);(case hy=>exact rfl);(case hc=>exact rfl);(case ht=>exact rfl);(case hz=>exact rfl);(case ho=>exact rfl);(case ha=>exact rfl);(case hi=>exact rfl))))|((with_reducible apply yag);(first|((with_reducible apply zku (xs:=[_]));(case hd=>decide);(case ht=>exact rfl);(case hp=>exact rfl);(case hlen=>exact rfl);(case hpos=>exact rfl);(case hsm=>exact rfl);(case hx=>exact rfl);(case hc=>exact rfl);(case hw=>exact rfl))|((with_reducible apply zku (xs:=[_,_]));(case hd=>decide);(case ht=>exact rfl);(case hp=>exact rfl);(case hlen=>exact rfl);(case hpos=>exact rfl);(case hsm=>exact rfl);(case hx=>exact rfl);(case hc=>exact rfl);(case hw=>exact rfl))|((with_reducible apply zku (xs:=[_,_,_]));(case hd=>decide);(case ht=>exact rfl);(case hp=>exact rfl);(case hlen=>exact rfl);(case hpos=>exact rfl);(case hsm=>exact rfl);(case hx=>exact rfl);(case hc=>exact rfl);(case hw=>exact rfl))|((with_reducible apply zku (xs:=[_,_,_,_]));(case hd=>decide);(case ht=>exact rfl);(case hp=>exact rfl);(case hlen=>exact rfl);(case hpos=>exact rfl);(case hsm=>exact rfl);(case hx=>exact rfl);(case hc=>exact rfl);(case hw=>exact rfl))|((with_reducible apply zku (xs:=[_,_,_,_,_]));(case hd=>decide);(case ht=>exact rfl);(case hp=>exact rfl);(case hlen=>exact rfl);(case hpos=>exact rfl);(case hsm=>exact rfl);(case hx=>exact rfl);(case hc=>exact rfl);(case hw=>exact rfl))|((with_reducible apply zku (xs:=[_,_,_,_,_,_]));(case hd=>decide);(case ht=>exact rfl);(case hp=>exact rfl);(case hlen=>exact rfl);(case hpos=>exact rfl);(case hsm=>exact rfl);(case hx=>exact rfl);(case hc=>exact rfl);(case hw=>exact rfl))))|((with_reducible apply a_fn);(case hd=>decide);(case hx=>exact rfl);(case hy=>exact rfl))|((with_reducible apply z3m);(case hd=>decide);(case hp=>exact rfl);(case ht=>exact rfl);(case hx=>exact rfl);(case hc=>exact rfl);(case hf=>exact rfl)))):G:=h
theorem af1{G:Prop}(h:G:=by(first|((with_reducible apply zk8);exact zp9 rfl rfl rfl)|((with_reducible apply zps);exact zm2 rfl rfl rfl)|((with_reducible apply zv5);exact z11 rfl rfl rfl rfl rfl)|((with_reducible apply zk9);exact zqa rfl)|((with_reducible apply kf_un);exact f_un rfl rfl rfl)|((with_reducible apply ylx);exact zsj rfl rfl rfl rfl)|((with_reducible apply zpt);first|exact f_len rfl rfl rfl|exact zlh rfl rfl rfl rfl rfl rfl rfl|exact f_max rfl rfl rfl rfl rfl|exact f_min rfl rfl rfl rfl rfl|exact zm3 rfl rfl rfl rfl rfl)|((with_reducible apply kf_lookup);exact zer rfl rfl oq rfl)|((with_reducible apply kf_mapUpdate);exact zdh rfl rfl oq rfl)|exact zkj rfl)):G:=h
theorem g1(next:ADr C N ops dr K rest ((G++R,[k])::acc) ((k,c)::s))(hg:Gd ops o s G:=by first|exact gdN rfl|exact gdT rfl rfl rfl)(h:AOp C N o R s [(k,c)]/\AFt C o R s:=by(refine⟨?_,?_⟩;exact ao1;exact af1)):ADr C N ops dr K (o::rest) acc s:=⟨_,[(k,c)],znq hg (zax h.1 h.2),next⟩
theorem g2(next:ADr C N ops dr K rest ((G++R,[k,k2])::acc) ((k,c)::(k2,c2)::s))(hg:Gd ops o s G:=by first|exact gdN rfl|exact gdT rfl rfl rfl)(h:AOp C N o R s [(k,c),(k2,c2)]/\AFt C o R s:=by(refine⟨?_,?_⟩;((first|((with_reducible apply a_box);(case hd=>decide);(case hx=>exact rfl);(case hc=>exact rfl);(case ha=>exact rfl);(case hf=>exact rfl))|((with_reducible apply yb5);(case hd=>decide);(case ht=>exact rfl);(case ha=>exact rfl);(case hf=>exact rfl))|((with_reducible apply zv6);(first|((with_reducible apply a_appendN);(case hd=>decide);(case hx=>exact rfl);(case ht=>exact rfl);(case hy=>exact rfl);(case hf=>exact rfl);(case hb=>first|assumption|decide|omega|(simp;done)|(simp;omega)|exact kah rfl))))|((with_reducible apply yag);(first|((with_reducible apply yfe);(case hd=>decide);(case ht=>exact rfl);(case hf=>exact rfl))))));exact af1)):ADr C N ops dr K (o::rest) acc s:=⟨_,[(k,c),(k2,c2)],znq hg (zax h.1 h.2),next⟩
theorem g3(next:ADr C N ops dr K rest ((G++R,[k,k2,k3])::acc) ((k,c)::(k2,c2)::(k3,c3)::s))(hg:Gd ops o s G:=by first|exact gdN rfl|exact gdT rfl rfl rfl)(h:AOp C N o R s [(k,c),(k2,c2),(k3,c3)]/\AFt C o R s:=by(refine⟨?_,?_⟩;((first|((with_reducible apply zv6);(first|((with_reducible apply z64);(case hd=>decide);(case hx=>exact rfl);(case hl=>exact rfl);(case hy=>exact rfl);(case hf=>exact rfl);(case ht=>exact rfl);(case hT=>exact rfl);(case hb=>first|assumption|decide|omega|(simp;done)|(simp;omega)|exact kah rfl))))));exact af1)):ADr C N ops dr K (o::rest) acc s:=⟨_,[(k,c),(k2,c2),(k3,c3)],znq hg (zax h.1 h.2),next⟩
theorem gC{x:Operand}{xs:Array Operand}{ts:Array TypeId}{ty:TypeId}{pos:String}{af:Array Edge}{g:Option (Nat×Bool)}{f:FuncId}{p q ys:List AV}{z:AV}
 (h:∃y,AFn C f (p++ys++q) y/\ADr C N ops dr K rest ((G++(rds x++zts xs.toList),[2*d])::acc) ((2*d,.av y)::s)) (hg:Gd ops ⟨some d,.call { callee:=.value x,args:=xs,argTypes:=ts },ty,pos,af,g⟩ s G:=by first|exact gdN rfl|exact gdT rfl rfl rfl)
 (hd:d<N:=by decide) (hx:ev s x=some z:=by exact rfl) (hc:zba z=some (f,p,q):=by exact rfl) (hy:evL s xs.toList=some ys:=by exact rfl) (hi:zbb (p++ys++q)=[]:=by exact rfl) :
 ADr C N ops dr K (⟨some d,.call { callee:=.value x,args:=xs,argTypes:=ts },ty,pos,af,g⟩::rest) acc s:=⟨_,_,znq hg (z3l hd hx hc hy hi h.choose_spec.1),h.choose_spec.2⟩
theorem kC{x:Operand}{xs:Array Operand}{ts:Array TypeId}{ty:TypeId}{pos:String}{af:Array Edge}{g:Option (Nat×Bool)}(h:ADr C N ops dr K (⟨some d,.call { callee:=.value x,args:=xs,argTypes:=ts },ty,pos,af,g⟩::rest) acc s):ADr C N ops dr K (⟨some d,.call { callee:=.value x,args:=xs,argTypes:=ts },ty,pos,af,g⟩::rest) acc s:=h
theorem gF(next:ADr C N ops dr K rest (([2*t],[2*d])::acc) ((2*d,.av (.val undef))::s))(hg:GdF ops o s t:=by first|exact gdF rfl rfl rfl|exact gdU rfl rfl rfl)(hd:o.dst=some d:=by exact rfl)(hN:d<N:=by decide):ADr C N ops dr K (o::rest) acc s:=by
 obtain⟨j,want,h1,h2,h3|h3⟩:=hg
 .exact adr_f h1 h2 h3 hd hN next
 .exact adr_u h1 h2 h3 hd hN next
theorem gN(h:∀b,e=b->ADr C N ops dr K (o::rest) acc s)(_hg:o.guard=some (j,want):=by exact rfl)(_ht:((ops.toArray)[j]?).bind (·.dst)=some t:=by exact rfl)(_hl:zac s (2*t)=some (.av (.val (.bool (!e)))):=by exact rfl)(_hu:znc e:=by((fail_if_success (with_reducible exact unsT));(fail_if_success (with_reducible exact unsF));exact uns _)):ADr C N ops dr K (o::rest) acc s:=h e rfl
theorem gS(h:∀b,e=b->ADr C N ops dr K (o::rest) acc s)(_hg:o.guard=some (j,want):=by exact rfl)(_ht:((ops.toArray)[j]?).bind (·.dst)=some t:=by exact rfl)(_hl:zac s (2*t)=some (.av (.val (.bool e))):=by exact rfl)(_hu:znc e:=by((fail_if_success (with_reducible exact unsT));(fail_if_success (with_reducible exact unsF));exact uns _)):ADr C N ops dr K (o::rest) acc s:=h e rfl
theorem gE(h:K s)(ho:dr=true->ztw ops acc.reverse=true:=by first|exact(λh=>absurd h oe)|(intro _;kernel_rfl)):ADr C N ops dr K [] acc s:=⟨ho,h⟩
variable{Q:Exit->AS->Prop}{a b:Code}{x:Operand}{i id:Nat}{l:List Oper}
theorem wR(h:ADr C N l false (Q .normal) l [] s)(hnd:l.all zd2=true:=by exact rfl):AW C r N (.region id l.toArray false) Q s:=z2r hnd h
theorem wD(h:ADr C N l true (Q .normal) l [] s)(hm:C.P.follows .mixedOrders=true:=by exact rfl)(hnd:l.all zd2=true:=by exact rfl):AW C r N (.region id l.toArray true) Q s:=ybo hm hnd h
theorem wT(h:AW C r N a Q s)(hx:ev s x=some (.val (.bool true)):=by exact rfl):AW C r N (.cond x a b) Q s:=z6q hx h
theorem wF(h:AW C r N b Q s)(hx:ev s x=some (.val (.bool false)):=by exact rfl):AW C r N (.cond x a b) Q s:=z6r hx h
theorem wN(h:∀d,e=d->AW C r N (.cond x a b) Q s)(_hx:ev s x=some (.val (.bool (!e))):=by exact rfl)(_hu:znc e:=by((fail_if_success (with_reducible exact unsT));(fail_if_success (with_reducible exact unsF));exact uns _)):AW C r N (.cond x a b) Q s:=h e rfl
theorem wC(h:∀d,e=d->AW C r N (.cond x a b) Q s)(_hx:ev s x=some (.val (.bool e)):=by exact rfl)(_hu:znc e:=by((fail_if_success (with_reducible exact unsT));(fail_if_success (with_reducible exact unsF));exact uns _)):AW C r N (.cond x a b) Q s:=h e rfl
end
theorem aby{C:Cx}{f:FuncId}{fn:Func}{c:Code}{args:List AV}{r:AV}{N:Nat}(hf:C.P.funcs[f]?=some fn)(hN:fn.ntmps=N)(h:∀Q:Exit->AS->Prop,(∀e s,((e=.normal\/e=.ret)/\zck C s fn.results.toList=some r)->Q e s)->AW C none N c Q (zhk args 0))(hb:fn.body=some c:=by exact rfl)(hn:(fn.name == "runtime.NumGoroutine")=false:=by exact rfl)(hl:Nat.ble args.length N=true:=by exact rfl)(hi:zbb args=[]:=by exact rfl)(hr:r.ids=[]:=by exact rfl):AFn C f args r:=zag hf hb hN hn hl hi (zab h) hr
end Go.Ab.J
namespace Go.Ab
open Go Go.RowKit
theorem Rel.frz1{G:zbf}{N:Nat}{w0:zfq}{s:AS}{a:Act}{w:World}{E:Env}{i wd:Nat}{T:TypeId}{rows:List (List AV)}(h:Rel G N w0 s a w E)(hl:zac s (2*i+1)=some (.buf wd T rows)) :
  ∃E':Env,Rel G N w0 ((2*i+1,.frz wd rows)::s) a w E'/\E'.mem=E.mem/\E'.buf=E.buf/\∀b,E.imm b->E'.imm b:=by
 refine⟨{ E with imm:=λb=>E.imm b\/blk E i (zac s (2*i+1))=some b },?_,rfl,rfl,λ_ h=>.inl h⟩
 have hne:∀j,j≠i->zac ((2*i+1,za7.frz wd rows)::s) (2*j+1)=zac s (2*j+1):=λj hj=>by rw [zaa,if_neg oc]
 have heq:zac ((2*i+1,za7.frz wd rows)::s) (2*i+1)=some (.frz wd rows):=by rw [zaa,if_pos rfl]
 have hblk:∀j b,blk { E with imm:=λb=>E.imm b\/blk E i (zac s (2*i+1))=some b } j (zac ((2*i+1,za7.frz wd rows)::s) (2*j+1))=some b->j≠i/\blk E j (zac s (2*j+1))=some b:=λj b hb=>by
  by_cases e:j=i
  .subst e;rw [heq] at hb;cases hb
  .rw [hne j e] at hb;refine⟨e,?_⟩;rw [<-hb];cases zac s (2*j+1) with
   | none=>rfl
   | some c=>cases c<;>rfl
 have hsl:Rep E w (.sl wd rows) (E.buf i)\/∃b o c,E.buf i=.slice (some ⟨b,o,none⟩) rows.length c/\znh E w wd rows b o/\blk E i (zac s (2*i+1))=some b/\rows.length<=c:=by
  have h1:=yml (E:=E) (base:=w0.base) (w:=w) (i:=i) (c:=some (.buf wd T rows)) (wd:=wd) (rows:=rows) (λk hk=>by cases hk;exact h.mem i _ hl) rfl;rcases h1 with ⟨h1,h2⟩|⟨b,o,cap,h1,h2,h0⟩
  .exact .inl (by rw [h1,h2];exact .nil wd)
  .exact .inr ⟨b,o,cap,h1,h2,by rw [hl];simp [blk,h1,Value.ownBlock],h0⟩
 have hm:∀{x v},Rep E w x v->Rep { E with imm:=λb=>E.imm b\/blk E i (zac s (2*i+1))=some b } w x v:=λhx=>Rep.step (λ_ h=>Or.inl h) (zdy.refl E w) hx λ_ _=>⟨rfl,rfl⟩
 refine⟨h.sz,h.df,h.dfo,λt x hx=>hm (h.tmp t x oH),λj c hc=>?_,λj k b hjk hb hb2=>?_,λj b hb=>?_,λb hb=>?_,h.ext,λb hb hlt=>?_,λk c hk j hj=>?_,zb3.step h.glb (λ_ h=>.inl h) (zdy.refl E w)⟩
 .by_cases e:j=i
  .subst e;rw [heq] at hc;cases hc
   simp only [zic];rcases hsl with h1|⟨b,o,c,h1,h2,h3,h0⟩
   .exact hm h1
   .rw [h1];exact za8 (E:=zca λb=>E.imm b\/blk E j (zac s (2*j+1))=some b) (zny h2 (.inr h3) (λ_ h=>.inl h) h0) rfl λ_ h=>h
  .rw [hne j e] at hc;have hm2:=h.mem j c hc;cases c with
   | av x=>exact hm2
   | dead=>trivial
   | frz wd' rows'=>exact hm hm2
   | mp kvs=>exact hm2
   | cells T' xs =>obtain⟨vs,h1,h2,h3⟩:=hm2;exact⟨vs,h1,yf1.step (E:=E) (λ_ h=>Or.inl h) (zdy.refl E w) h2 λ_ _=>⟨rfl,rfl⟩,h3⟩
   | buf wd' T' rows' =>obtain⟨h1,vs,h2,h3⟩:=hm2;exact⟨h1,vs,h2,yf1.step (E:=E) (λ_ h=>Or.inl h) (zdy.refl E w) h3 λ_ _=>⟨rfl,rfl⟩⟩
 .obtain⟨_,h1⟩:=hblk j b hb;obtain⟨_,h2⟩:=hblk k b hb2;exact h.dis j k b hjk h1 h2
 .obtain⟨e,h1⟩:=hblk j b hb;obtain⟨p,q,r⟩:=h.new j b h1;exact⟨p,λhi=>hi.elim q λh2=>h.dis j i b e h1 h2,r⟩
 .rcases hb with hb|hb
  .exact h.imm b hb
  .exact(h.new i b hb).2.2
 .rcases hb with hb|hb
  .exact h.old b hb hlt
  .exact((h.new i b hb).1.2 hlt).2
 .rw [zaa] at hk |-;split
  .simp
  .split at hk
   .cases hk;simp [za7.ids] at hj
   .exact h.scp k c hk j hj
def zz1(s:AS):AV->Option AV
 | .own i=>match zac s (2*i+1) with
   | some (.frz wd rows)=>some (.sl wd rows)
   | _=>none
 | x=>bif x.ids.isEmpty then some x else none
def zz3(s:AS):AV->Option AV
 | .agg xs=>match zf0 (zz1 s) xs with
   | some ys=>some (.agg ys)
   | none=>none
 | .tup xs=>match zf0 (zz1 s) xs with
   | some ys=>some (.tup ys)
   | none=>none
 | .fn f a b=>match zf0 (zz1 s) a,zf0 (zz1 s) b with
   | some a',some b'=>some (.fn f a' b')
   | _,_=>none
 | x=>zz1 s x
section
variable{G:zbf}{N:Nat}{w0:zfq}{s:AS}{a:Act}{w:World}{E:Env}
theorem zyv{x y:AV}(h:Rel G N w0 s a w E)(ht:zz1 s x=some y):y.ids=[]/\∀v,Rep E w x v->Rep E w y v:=by
 by_cases ho:∃i,x=.own i
 .obtain⟨i,rfl⟩:=ho;simp only [zz1] at ht;split at ht
  .rename_i wd rows hr;cases ht
   refine⟨rfl,λv hx=>?_⟩;rw [zda hx];exact h.mem i _ hr
  .cases ht
 .have e:zz1 s x=bif x.ids.isEmpty then some x else none:=by
    cases x<;>first|rfl|(exact absurd ⟨_,rfl⟩ ho)
  rw [e] at ht;cases hq:x.ids with
  | nil=>rw [hq] at ht;cases ht;exact⟨hq,λ_ h=>h⟩
  | cons i l=>rw [hq] at ht;cases ht
theorem zu2{x y:AV}(h:Rel G N w0 s a w E)(ht:zz3 s x=some y):y.ids=[]/\∀v,Rep E w x v->Rep E w y v:=by
 have hi:∀x y,zz1 s x=some y->y.ids=[]:=λx y hx=>(zyv h hx).1;have hr:∀x y v,Rep E w x v->zz1 s x=some y->Rep E w y v:=λx y v hx hy=>(zyv h hy).2 v hx;by_cases hp:(∃xs,x=.agg xs)\/(∃xs,x=.tup xs)\/∃f a b,x=.fn f a b
 .rcases hp with ⟨xs,rfl⟩|⟨xs,rfl⟩|⟨f,p,q,rfl⟩
  .simp only [zz3] at ht;split at ht
   .rename_i ys e;cases ht
    refine⟨by simpa [AV.ids] using zcu hi e,λv hx=>?_⟩;cases hx with
    | agg _ vs hl hh =>have:=zcb hr ⟨hl,hh⟩ e;exact .agg ys vs this.1 this.2
   .cases ht
  .simp only [zz3] at ht;split at ht
   .rename_i ys e;cases ht
    refine⟨by simpa [AV.ids] using zcu hi e,λv hx=>?_⟩;cases hx with
    | tup _ vs hl hh =>have:=zcb hr ⟨hl,hh⟩ e;exact .tup ys vs this.1 this.2
   .cases ht
  .simp only [zz3] at ht;split at ht
   .rename_i p' q' e1 e2;cases ht
    refine⟨by simp [AV.ids,zcu hi e1,zcu hi e2],λv hx=>?_⟩;cases hx with
    | fn _ _ _ vs us hl hm hh hk =>have h1:=zcb hr ⟨hl,hh⟩ e1;have h2:=zcb hr ⟨hm,hk⟩ e2;exact .fn f p' q' vs us h1.1 h2.1 h1.2 h2.2
   .cases ht
 .have e:zz3 s x=zz1 s x:=by
    cases x<;>first|rfl|(exact absurd (.inl ⟨_,rfl⟩) hp)|(exact absurd (.inr (.inl ⟨_,rfl⟩)) hp)|(exact absurd (.inr (.inr ⟨_,_,_,rfl⟩)) hp)
  rw [e] at ht;exact zyv h ht
end
section
variable{C:Cx}{N:Nat}{s:AS}{d:Nat}{ty:TypeId}{pos:String}{af:Array Edge}{g:Option (Nat×Bool)}{x:Operand}{xs:Array Operand}{ts:Array TypeId}{f:FuncId}{p q ys zs:List AV}{z y:AV}
theorem zj5{w0:zfq}{E:Env}{a:Act}{w:World}{s':AS}(hr:Rel C.G N w0 s' a w E)(hd:d<N)(hx:ev s' x=some z)(hc:zba z=some (f,p,q))(hy:evL s' xs.toList=some ys)(hz:zf0 (zz3 s') (p++ys++q)=some zs)(hf:AFn C f zs y){K:Act->World->Prop}{Q:Exit->Act->World->Prop}
  (hK:∀a' w' E',Rel C.G N w0 ((2*d,.av y)::s') a' w' E'->K a' w'):(⟨some d,.call { callee:=.value x,args:=xs,argTypes:=ts },ty,pos,af,g⟩:Oper).wp C.P a w K Q:=by
 obtain⟨hrid,hok,hf⟩:=hf
 obtain⟨h1,h2⟩:=hr.evL hy
 obtain⟨us,vs,e1,e2⟩:=zfn (hr.ev hx) hc h1
 unfold Oper.wp
 rw [zfl e1 hok,Oper.upon_enter]
 have e3:=zcb (E':=E) (λx y v hx hy=>(zu2 hr hy).2 v hx) e2 hz
 have hi:=zcu (λx y hy=>(zu2 hr hy).1) hz
 have hcl:=yf1.step (E:=E) (E':=zca E.imm) (λ_ h=>h) (zdy.refl E w) e3 oV
 have:=hf E.imm w _ hr.imm (zoi hr.glb λ_ h=>h) hcl
 rw [ka9] at this
 refine this.mono λe w' he=>?_
 obtain⟨v,rfl,hb,hrep⟩:=he
 have hg:=hr.grow hb
 have h3:Rel C.G N w0 s' a w' { E with imm:=λb=>E.imm b\/(w.heap.size<=b/\b<w'.heap.size) } :=
  hg.step (λ_ h=>.inl h) (zdy.refl E w') (λ_ _=>⟨rfl,rfl⟩) (λi b hbl=>⟨rfl,λhi=>hi.elim (hg.new i b hbl).2.1 λh=>by have:=(hr.new i b hbl).2.2;omega⟩)
   (λb hb2=>hb2.elim (hg.imm b) λh=>h.2) (kac _) hg.ext (λb hbi hlt=>hbi.elim (λh1=>hr.old b h1 hlt) λh1=>by have:=hr.ext.size;omega) (hdd:=λD hD=>hD)
 exact hK _ _ _ (h3.put hd (za8 hrep hrid λ_ h=>h) (by rw [hrid];simp))
def frzC:Option za7->za7
 | some (.buf wd _ rows)=>.frz wd rows
 | _=>.dead
def zt8:Option za7->Bool
 | some (.buf _ _ _)=>true
 | _=>false
def frzL(s:AS)(fs:List Nat):AS:=fs.map λi=>(2*i+1,frzC (zac s (2*i+1)))
theorem zgu{s:AS}:∀{fs:List Nat} {k:Nat},zac (frzL s fs) k=if ∃i∈fs,k=2*i+1 then some (frzC (zac s k)) else none
 | [],k=>by simp [frzL,zac]
 | i::fs,k=>by
   have ih:=zgu (s:=s) (fs:=fs) (k:=k);simp only [frzL,kbq] at ih |-;rw [zaa];by_cases h:2*i+1=k
   .subst h;simp
   .rw [if_neg h,ih];have:(∃j∈i::fs,k=2*j+1)↔∃j∈fs,k=2*j+1:=by
      simp only [kat];constructor
      .rintro⟨j,rfl|hj,e⟩
       .exact absurd e.symm h
       .exact⟨j,hj,e⟩
      .rintro⟨j,hj,e⟩;exact⟨j,.inr hj,e⟩
    simp only [this]
theorem Rel.frzL{G:zbf}{w0:zfq}{a:Act}{w:World}{E:Env}(h:Rel G N w0 s a w E):∀(fs:List Nat),fs.all (λi=>zt8 (zac s (2*i+1)))=true->∃E',Rel G N w0 (Ab.frzL s fs++s) a w E'
 | [],_=>⟨E,h⟩
 | i::fs,hfs=>by
   simp only [List.all_cons,ka0] at hfs;obtain⟨E',ih⟩:=Rel.frzL h fs hfs.2;obtain⟨wd,T,rows,hl⟩:∃wd T rows,zac s (2*i+1)=some (.buf wd T rows):=by
    have:=hfs.1;unfold zt8 at this;split at this
    .exact⟨_,_,_,by assumption⟩
    .cases this
   have he:Ab.frzL s (i::fs)++s=(2*i+1,.frz wd rows)::(Ab.frzL s fs++s):=by simp [Ab.frzL,hl,frzC]
   rw [he];by_cases hi:i∈fs
   .refine⟨E',ih.congr λk=>?_⟩;rw [zaa];split
    .rename_i e;subst e;rw [zbz,zgu,if_pos ⟨i,hi,rfl⟩,hl];rfl
    .rfl
   .obtain⟨E2,h2,_⟩:=ih.frz1 (i:=i) (wd:=wd) (T:=T) (rows:=rows) (by
      rw [zbz,zgu,if_neg (by rintro⟨j,hj,e⟩;have:i=j:=oc
                             subst this;exact hi hj)];exact hl)
    exact⟨E2,h2⟩
theorem zqw{s s':AS}:∀{xs:List AV},(∀i∈zbb xs,zac s' (2*i+1)=zac s (2*i+1))->zf0 (zz1 s') xs=zf0 (zz1 s) xs
 | [],_=>rfl
 | x::xs,h=>by
   have hx:zz1 s' x=zz1 s x:=by
    cases x<;>simp only [zz1]
    rw [h _ (by simp [zbb,AV.ids])]
   simp only [zf0,hx,zqw (xs:=xs) λi hi=>h i (by simp [zbb,hi])]
theorem zta{s s':AS}:∀{xs:List AV},(∀i∈zbb xs,zac s' (2*i+1)=zac s (2*i+1))->zf0 (zz3 s') xs=zf0 (zz3 s) xs
 | [],_=>rfl
 | x::xs,h=>by
   have h1:∀i∈x.ids,zac s' (2*i+1)=zac s (2*i+1):=λi hi=>h i (by simp [zbb,hi]);have hx:zz3 s' x=zz3 s x:=by
    have e1:zz1 s' x=zz1 s x:=by
     cases x<;>simp only [zz1]
     rw [h1 _ ox]
    cases x with
    | agg ys=>simp only [zz3];rw [zqw λi hi=>h1 i (by simpa [AV.ids] using hi)]
    | tup ys=>simp only [zz3];rw [zqw λi hi=>h1 i (by simpa [AV.ids] using hi)]
    | fn f a b=>simp only [zz3];rw [zqw λi hi=>h1 i (by simp [AV.ids,hi]),zqw λi hi=>h1 i (by simp [AV.ids,hi])]
    | _=>exact e1
   simp only [zf0,hx,zta (xs:=xs) λi hi=>h i (by simp [zbb,hi])]
def zl5(xs:List AV):List Nat:=(zbb xs).map λi=>2*i+1
theorem z3k{fs:List Nat}(hd:d<N)(hx:ev s x=some z)(hc:zba z=some (f,p,q))(hy:evL s xs.toList=some ys)(hfs:(zbb (p++ys++q)).filter (λi=>zt8 (zac s (2*i+1)))=fs)(hz:zf0 (zz3 (frzL s fs++s)) (p++ys++q)=some zs)(hf:AFn C f zs y) :
  AOp C N ⟨some d,.call { callee:=.value x,args:=xs,argTypes:=ts },ty,pos,af,g⟩ (rds x++zts xs.toList++zl5 (p++ys++q)) s ((2*d,.av y)::frzL s fs):=by
 intro w0 E s' a w hR hr K Q hK
 have hid:∀i∈zbb (p++ys++q),zac s' (2*i+1)=zac s (2*i+1):=λi hi=>hR _ (by simp only [kax,zl5];exact .inr (kav.2 ⟨i,hi,rfl⟩))
 have hfm:∀i∈fs,i∈zbb (p++ys++q)/\zt8 (zac s (2*i+1))=true:=λi hi=>by rw [<-hfs] at hi;exact kbw.1 hi
 have hsame:frzL s' fs=frzL s fs:=kcn λi hi=>by rw [hid i (hfm i hi).1]
 obtain⟨E',h1⟩:=hr.frzL fs (kar.2 λi hi=>by rw [hid i (hfm i hi).1];exact(hfm i hi).2)
 rw [hsame] at h1
 have hev:∀o:Operand,ev (frzL s fs++s') o=ev s' o:=λo=>zas λr hr=>by
  rw [zbz,zgu,if_neg]
  .rfl
  .rintro⟨i,_,e⟩;cases o<;>simp [rds] at hr
   omega
 have hevL:∀os:List Operand,evL (frzL s fs++s') os=evL s' os:=λos=>by
  induction os with
  | nil=>rfl
  | cons o os ih=>simp only [evL,hev,ih]
 refine zj5 h1 hd (by rw [hev];exact zat hR (λ_ h=>by simp [h]) hx) hc (by rw [hevL];exact(zct λr h=>hR r (by simp [h])).trans hy) ((zta λi hi=>?_).trans hz) hf λa' w' E' h=>hK a' w' E' (oa h)
 rw [zbz,zbz,hid i hi]
def z8b(s:AS)(i:Nat):List Nat:=(2*i+1)::match zac s (2*i+1) with
 | some (.cells _ ys)=>(zbb ys).map λj=>2*j+1
 | _=>[]
def depK(s:AS)(xs:List AV):List Nat:=(zbb xs).flatMap (z8b s)
theorem zpb{s s':AS}{x:AV}(h:∀i∈x.ids,zac s' (2*i+1)=zac s (2*i+1)):th1 s' x=th1 s x:=by
 cases x<;>simp only [th1]
 rw [h _ ox]
theorem zfz{f f':AV->Option AV}:∀{xs:List AV},(∀x∈xs,f' x=f x)->zf0 f' xs=zf0 f xs
 | [],_=>rfl
 | x::xs,h=>by simp only [zf0,h x od,zfz (xs:=xs) λy hy=>h y (by simp [hy])]
theorem zth{s s':AS}{x:AV}(h:∀i∈x.ids,∀k∈z8b s i,zac s' k=zac s k):th2 s' x=th2 s x:=by
 cases x with
 | ptr i o =>
   have h1:zac s' (2*i+1)=zac s (2*i+1):=h i ox _ (by simp [z8b]);simp only [th2,h1];cases hl:zac s (2*i+1) with
   | none=>rfl
   | some c =>
     cases c with
     | cells T ys =>have:zf0 (th1 s') ys=zf0 (th1 s) ys:=zfz λy hy=>zpb λj hj=>h i ox _ (by simp only [z8b,hl,kat,kav];exact .inr ⟨j,zal.2 ⟨y,hy,hj⟩,rfl⟩);simp only [this]
     | _=>rfl
 | _=>exact zpb λi hi=>h i hi _ (by simp [z8b])
theorem z9h{s s':AS}{x:AV}(h:∀i∈x.ids,∀k∈z8b s i,zac s' k=zac s k):th3 s' x=th3 s x:=by
 cases x with
 | agg xs=>simp only [th3];rw [zfz λy hy=>zpb λj hj=>h j (by simp only [AV.ids];exact zal.2 ⟨y,hy,hj⟩) _ (by simp [z8b])]
 | tup xs=>simp only [th3];rw [zfz λy hy=>zpb λj hj=>h j (by simp only [AV.ids];exact zal.2 ⟨y,hy,hj⟩) _ (by simp [z8b])]
 | fn f a b=>simp only [th3];rw [zfz (xs:=a) λy hy=>zth λj hj=>h j (by simp only [AV.ids,kax];exact .inl (zal.2 ⟨y,hy,hj⟩)),zfz (xs:=b) λy hy=>zth λj hj=>h j (by simp only [AV.ids,kax];exact .inr (zal.2 ⟨y,hy,hj⟩))]
 | _=>exact zth h
structure Fl(y:AV)(P:Prop):Prop where
 fl:z79 y=true
 go:P
end
end Go.Ab
namespace Go.Ab.J
open Go Go.RowKit
open Go.Kp (FSt jdgF OpsR)
section
variable{C:Cx}{N:Nat}{s:AS}{d:Nat}{ty:TypeId}{pos:String}{af:Array Edge}{g:Option (Nat×Bool)}{x:Operand}{xs:Array Operand}{ts:Array TypeId}{f:FuncId}{p q ys zs:List AV}{z y:AV}
theorem zj5{Post:Value->World->Prop}{F0:FB}{σ:FSt}{E:Env}{a:Act}{w:World}{s':AS}{r:Option Nat}{fn:FuncId}{ops:Array Oper}{i:Nat}{rest:List Nat}{Q:Exit->FSt->Act->World->Prop}(ho:ops[i]?=some ⟨some d,.call { callee:=.value x,args:=xs,argTypes:=ts },ty,pos,af,g⟩)(hw:Region.wanted ⟨some d,.call { callee:=.value x,args:=xs,argTypes:=ts },ty,pos,af,g⟩ (yielded ops a.tmps)=true)
  (hr:FRel C.G N F0 s' σ a w E) (hd:d<N) (hx:ev s' x=some z) (hc:zba z=some (f,p,q)) (hy:evL s' xs.toList=some ys) (hz:zf0 (zz3 s') (p++ys++q)=some zs) (hf:AFn C f zs y)
  (hK:∀σ' v w' E',FRel C.G N F0 ((2*d,.av y)::s') σ' (a.put (some d) v) w' E'->OpsR (jdgF C.P Post) r fn ops rest Q σ' (a.put (some d) v) w'):OpsR (jdgF C.P Post) r fn ops (i::rest) Q σ a w:=by
 obtain⟨hrid,hok,hf⟩:=hf
 obtain⟨h1,h2⟩:=hr.rel.evL hy
 obtain⟨us,vs,e1,e2⟩:=zfn (hr.rel.ev hx) hc h1
 have e3:=zcb (E':=E) (λx y v hx hy=>(zu2 hr.rel hy).2 v hx) e2 hz
 have hi:=zcu (λx y hy=>(zu2 hr.rel hy).1) hz
 have hcl:=yf1.step (E:=E) (E':=zca E.imm) (λ_ h=>h) (zdy.refl E w) e3 oV
 have:=hf Post E.imm σ w _ hr.ahead (zoi hr.rel.glb λ_ h=>h) hcl
 rw [ka9] at this
 refine zgp ho hw (λc e=>by cases e) (λw=>zfl e1 hok) (λw=>zfk e1 hok) this λσ' v w' hb=>?_
 obtain⟨hg,hrep⟩:=hb
 exact hK σ' v w' _ ((hr.gone hg λ_=>True).put hd (za8 hrep hrid λ_ h=>h) (by rw [hrid];simp))
theorem z3k{fs:List Nat}(hd:d<N)(hx:ev s x=some z)(hc:zba z=some (f,p,q))(hy:evL s xs.toList=some ys)(hfs:(zbb (p++ys++q)).filter (λi=>zt8 (zac s (2*i+1)))=fs)(hz:zf0 (zz3 (frzL s fs++s)) (p++ys++q)=some zs)(hf:AFn C f zs y) :
  AOpJ C N ⟨some d,.call { callee:=.value x,args:=xs,argTypes:=ts },ty,pos,af,g⟩ (rds x++zts xs.toList++zl5 (p++ys++q)) s ((2*d,.av y)::frzL s fs):=by
 intro Post F0 σ E s' a w hR hr hnd r fn ops i rest Q ho hw hK
 have hid:∀i∈zbb (p++ys++q),zac s' (2*i+1)=zac s (2*i+1):=λi hi=>hR _ (by simp only [kax,zl5];exact .inr (kav.2 ⟨i,hi,rfl⟩))
 have hfm:∀i∈fs,i∈zbb (p++ys++q)/\zt8 (zac s (2*i+1))=true:=λi hi=>by rw [<-hfs] at hi;exact kbw.1 hi
 have hsame:frzL s' fs=frzL s fs:=kcn λi hi=>by rw [hid i (hfm i hi).1]
 obtain⟨E',h1⟩:=hr.rel.frzL fs (kar.2 λi hi=>by rw [hid i (hfm i hi).1];exact(hfm i hi).2)
 rw [hsame] at h1
 have hev:∀o:Operand,ev (frzL s fs++s') o=ev s' o:=λo=>zas λr hr=>by
  rw [zbz,zgu,if_neg]
  .rfl
  .rintro⟨i,_,e⟩;cases o<;>simp [rds] at hr
   omega
 have hevL:∀os:List Operand,evL (frzL s fs++s') os=evL s' os:=λos=>by
  induction os with
  | nil=>rfl
  | cons o os ih=>simp only [evL,hev,ih]
 refine zj5 ho hw (hr.sub h1) hd (by rw [hev];exact zat hR (λ_ h=>by simp [h]) hx) hc (by rw [hevL];exact(zct λr h=>hR r (by simp [h])).trans hy) ((zta λi hi=>?_).trans hz) hf λσ' v w' E' h=>hK σ' v w' E' (oa h)
 rw [zbz,zbz,hid i hi]
theorem gK{ops rest:List Oper}{dr:Bool}{K:AS->Prop}{acc:List (List Nat×List Nat)}{Gk:List Nat}{fs:List Nat}
 (h:∃y,AFn C f zs y/\ADr C N ops dr K rest ((Gk++(rds x++zts xs.toList++zl5 (p++ys++q)),((2*d,za7.av y)::frzL s fs).map (·.1))::acc) (((2*d,.av y)::frzL s fs)++s)) (hg:Gd ops ⟨some d,.call { callee:=.value x,args:=xs,argTypes:=ts },ty,pos,af,g⟩ s Gk:=by first|exact gdN rfl|exact gdT rfl rfl rfl)
 (hd:d<N:=by decide) (hx:ev s x=some z:=by exact rfl) (hc:zba z=some (f,p,q):=by exact rfl) (hy:evL s xs.toList=some ys:=by exact rfl) (hfs:(zbb (p++ys++q)).filter (λi=>zt8 (zac s (2*i+1)))=fs:=by exact rfl) (hz:zf0 (zz3 (frzL s fs++s)) (p++ys++q)=some zs:=by exact rfl) :
 ADr C N ops dr K (⟨some d,.call { callee:=.value x,args:=xs,argTypes:=ts },ty,pos,af,g⟩::rest) acc s:=⟨_,_,znq hg (z3k hd hx hc hy hfs hz h.choose_spec.1),h.choose_spec.2⟩
theorem gB{ops rest:List Oper}{dr:Bool}{K:AS->Prop}{acc:List (List Nat×List Nat)}{Gk:List Nat}
  (h:∃y,AFn C f zs y/\Fl y (ADr C N ops dr K rest ((Gk++(rds x++zts xs.toList++depK s (p++ys++q)),[2*d])::acc) ((2*d,.av y)::s))) (hg:Gd ops ⟨some d,.call { callee:=.value x,args:=xs,argTypes:=ts },ty,pos,af,g⟩ s Gk:=by first|exact gdN rfl|exact gdT rfl rfl rfl)
  (hd:d<N:=by decide) (hx:ev s x=some z:=by exact rfl) (hc:zba z=some (f,p,q):=by exact rfl) (hy:evL s xs.toList=some ys:=by exact rfl) (hz:zf0 (th3 s) (p++ys++q)=some zs:=by exact rfl) :
  ADr C N ops dr K (⟨some d,.call { callee:=.value x,args:=xs,argTypes:=ts },ty,pos,af,g⟩::rest) acc s :=
 ⟨_,_,znq hg (yb4 hd hx hc hy hz h.choose_spec.2.fl h.choose_spec.1 λ_s' hs=>zfz λy hy=>z9h λi hi k hk=>hs k (kcq.2 ⟨i,zal.2 ⟨y,hy,hi⟩,hk⟩)),h.choose_spec.2.go⟩
end
end Go.Ab.J
namespace Go.Proofs
open Go Go.Ab
abbrev tIa:TI:=⟨false,1,8,[.nilFunc],.oth⟩
abbrev tIb:TI:=⟨false,1,8,[.pointer none],.oth⟩
abbrev tIc:TI:=⟨false,1,8,[.int .i64 0],.int .i64⟩
abbrev tId:TI:=⟨false,1,8,[.int .u64 0],.int .u64⟩
noncomputable def cxT:List (Nat×TI):=[(25,⟨true,3,56,[.int .i64 0,.slice none 0 0,.slice none 0 0],.st [(0,1),(1,1),(2,1)]⟩),
 (28,tIc),
 (31,tIc),
 (33,⟨true,2,16,[.int .i64 0,.int .i64 0],.st [(0,1),(1,1)]⟩),
 (34,tIc),
 (36,⟨true,7,56,[.int .i64 0,.int .i64 0,.int .i64 0,.int .i64 0,.int .i64 0,.int .i64 0,.int .i64 0],.st [(0,1),(1,1),(2,1),(3,1),(4,2),(6,1)]⟩),
 (41,tIc),
 (68,⟨true,5,40,[.int .i64 0,.int .i64 0,.int .i64 0,.int .i64 0,.bool false],.st [(0,1),(1,1),(2,2),(4,1)]⟩),
 (88,⟨true,3,56,[.int .i64 0,.slice none 0 0,.slice none 0 0],.st [(0,3)]⟩),
 (92,⟨true,5,104,[.int .i64 0,.slice none 0 0,.slice none 0 0,.slice none 0 0,.slice none 0 0],.st [(0,3),(3,1),(4,1)]⟩),
 (99,⟨true,6,48,[.int .i64 0,.int .i64 0,.int .i64 0,.int .i64 0,.int .i64 0,.int .i64 0],.st [(0,6)]⟩),
 (104,⟨true,12,56,[.int .i64 0,.int .i64 0,.int .i64 0,.int .i64 0,.int .i64 0,.int .i64 0,.bool false,.bool false,.bool false,.bool false,.bool false,.bool false],.st [(0,6),(6,6)]⟩),
 (140,⟨true,2,48,[.slice none 0 0,.slice none 0 0],.st [(0,1),(1,1)]⟩),
 (166,⟨true,3,32,[.string ⟨#[]⟩,.int .i64 0,.nilFunc],.st [(0,1),(1,1),(2,1)]⟩),
 (214,tIc),
 (226,⟨true,3,32,[.string ⟨#[]⟩,.int .i64 0,.nilFunc],.st [(0,1),(1,1),(2,1)]⟩),
 (230,tId),
 (2,tIc),
 (3,tIc),
 (4,⟨false,1,1,[.bool false],.bool⟩),
 (5,⟨false,1,1,[.int .u8 0],.int .u8⟩),
 (9,⟨false,1,16,[.string ⟨#[]⟩],.str⟩),
 (12,tId),
 (21,⟨false,1,4,[.int .i32 0],.int .i32⟩),
 (22,⟨false,1,24,[.slice none 0 0],.sl 36⟩),
 (23,⟨false,1,24,[.slice none 0 0],.sl 68⟩),
 (38,⟨false,1,24,[.slice none 0 0],.sl 3⟩),
 (52,⟨false,1,2,[.int .u16 0],.int .u16⟩),
 (59,⟨false,1,24,[.slice none 0 0],.sl 4⟩),
 (78,⟨false,1,24,[.slice none 0 0],.sl 38⟩),
 (83,tIb),
 (89,⟨false,1,24,[.slice none 0 0],.sl 104⟩),
 (90,⟨false,1,24,[.slice none 0 0],.sl 99⟩),
 (97,⟨true,6,48,[.int .i64 0,.int .i64 0,.int .i64 0,.int .i64 0,.int .i64 0,.int .i64 0],.ar 6 3⟩),
 (102,⟨true,6,6,[.bool false,.bool false,.bool false,.bool false,.bool false,.bool false],.ar 6 4⟩),
 (111,⟨false,1,4,[.int .u32 0],.int .u32⟩),
 (118,tId),
 (133,tIb),
 (147,⟨false,1,24,[.slice none 0 0],.sl 140⟩),
 (161,⟨false,1,8,[.map none],.oth⟩),
 (167,⟨true,15,160,[.string ⟨#[]⟩,.int .i64 0,.nilFunc,.string ⟨#[]⟩,.int .i64 0,.nilFunc,.string ⟨#[]⟩,.int .i64 0,.nilFunc,.string ⟨#[]⟩,.int .i64 0,.nilFunc,.string ⟨#[]⟩,.int .i64 0,.nilFunc],.ar 5 166⟩),
 (173,tIb),
 (178,tId),
 (179,tIb),
 (193,⟨false,1,8,[.map none],.oth⟩),
 (204,tIb),
 (209,tIb),
 (227,⟨true,18,192,[.string ⟨#[]⟩,.int .i64 0,.nilFunc,.string ⟨#[]⟩,.int .i64 0,.nilFunc,.string ⟨#[]⟩,.int .i64 0,.nilFunc,.string ⟨#[]⟩,.int .i64 0,.nilFunc,.string ⟨#[]⟩,.int .i64 0,.nilFunc,.string ⟨#[]⟩,.int .i64 0,.nilFunc],.ar 6 226⟩),
 (233,tIb),
 (235,tIb),
 (248,tIb),
 (1,tIa),
 (26,tIa),
 (27,tIa),
 (30,tIa),
 (37,tIa),
 (39,tIa),
 (40,tIa),
 (43,tIa),
 (45,tIa),
 (47,tIa),
 (48,tIa),
 (49,tIa),
 (50,tIa),
 (51,tIa),
 (53,tIa),
 (54,tIa),
 (56,tIa),
 (57,tIa),
 (58,tIa),
 (61,tIa),
 (63,tIa),
 (65,tIa),
 (66,tIa),
 (69,tIa),
 (70,tIa),
 (71,tIa),
 (72,tIa),
 (73,tIa),
 (74,tIa),
 (76,tIa),
 (77,tIa),
 (79,tIa),
 (80,tIa),
 (81,tIa),
 (82,tIa),
 (84,tIa),
 (85,tIa),
 (86,tIa),
 (94,tIa),
 (95,tIa),
 (96,tIa),
 (100,tIa),
 (101,tIa),
 (105,tIa),
 (106,tIa),
 (107,tIa),
 (108,tIa),
 (123,tIa),
 (124,tIa),
 (125,tIa),
 (126,tIa),
 (127,tIa),
 (128,tIa),
 (129,tIa),
 (130,tIa),
 (131,tIa),
 (132,tIa),
 (134,tIa),
 (135,tIa),
 (136,tIa),
 (138,tIa),
 (141,tIa),
 (142,tIa),
 (143,tIa),
 (144,tIa),
 (145,⟨false,1,24,[.slice none 0 0],.sl 144⟩),
 (146,tIa),
 (148,tIa),
 (150,tIa),
 (151,tIa),
 (152,tIa),
 (153,tIa),
 (154,tIa),
 (155,tIa),
 (156,tIa),
 (157,tIa),
 (158,tIa),
 (159,tIa),
 (160,tIa),
 (162,tIa),
 (163,tIa),
 (164,tIa),
 (168,tIa),
 (169,tIa),
 (170,tIa),
 (172,tIa),
 (176,tIa),
 (177,tIa),
 (180,tIa),
 (181,tIa),
 (183,tIa),
 (184,tIa),
 (187,tIa),
 (188,tIa),
 (189,tIa),
 (190,tIa),
 (191,tIa),
 (192,tIa),
 (195,tIa),
 (196,tIa),
 (197,tIa),
 (198,tIa),
 (199,tIa),
 (200,tIa),
 (201,tIa),
 (203,tIa),
 (205,tIa),
 (206,tIa),
 (208,tIa),
 (210,tIa),
 (211,tIa),
 (212,tIa),
 (213,tIa),
 (216,tIa),
 (217,tIa),
 (218,tIa),
 (219,tIa),
 (221,tIa),
 (222,tIa),
 (223,tIa),
 (224,tIa),
 (228,tIa),
 (229,tIa),
 (231,tIa),
 (232,tIa),
 (234,tIa),
 (237,tIa),
 (238,tIa),
 (244,tIa),
 (247,tIa),
 (253,tIa)]
theorem yd6:cxT.map (λp=>ycb Tryz.prog p.1)=cxT.map (λp=>some p.2):=by kernel_rfl
noncomputable def cx(G:zbf):Cx:=⟨Tryz.prog,G,cxT,yd6⟩
end Go.Proofs
namespace Go.Kp
open Go Go.Proofs
structure Slip where
 kind:Int
 dept:Int
 clerk:Int
 for_:Int
 lo:Int
 hi:Int
 signed:Int
 deriving DecidableEq
def sgn(p q:Prop) [Decidable p] [Decidable q]:Int:=if p then 1 else if q then -1 else 0
def Slip.part(s:Slip)(k:Nat)(a:Int):Int :=
 match k with
 | 0=>sgn (s.kind=0\/s.kind=4) (s.kind=3)
 | 1=>sgn (s.dept=a/\((s.kind=0\/s.kind=1)\/s.kind=2)) (s.dept=a/\s.kind=3)
 | 2=>sgn (s.clerk=a/\(s.kind=0\/s.kind=1)) (s.clerk=a/\s.kind=3)
 | 3=>sgn (s.kind=1) (s.kind=4)
 | _=>sgn (s.kind=2) False
def zbo(ss:List Slip)(am:List Int)(k:Nat)(a:Int)(n:Nat):Int:=((List.range n).map λi=>(ss.getD i ⟨0,0,0,0,0,0,0⟩).part k a*am.getD i 0).sum
theorem zji(ss:List Slip)(am:List Int)(k:Nat)(a:Int)(n:Nat):zbo ss am k a (n+1)=zbo ss am k a n+(ss.getD n ⟨0,0,0,0,0,0,0⟩).part k a*am.getD n 0:=by unfold zbo;rw [kdp];simp
theorem yc9(p q:Prop) [Decidable p] [Decidable q]:-1<=sgn p q/\sgn p q<=1:=by unfold sgn;split<;>(try split)<;>omega
theorem ztu(s:Slip)(k:Nat)(a:Int):-1<=s.part k a/\s.part k a<=1:=by unfold Slip.part;split<;>exact yc9 _ _
theorem z0r{p x:Int}(h:-1<=p/\p<=1)(hx:0<=x/\x<=999):-999<=p*x/\p*x<=999:=by
 have:p=-1\/p=0\/p=1:=oc
 rcases this with rfl|rfl|rfl<;>omega
theorem zpf(ss:List Slip)(am:List Int)(k:Nat)(a:Int)(h:∀i,0<=am.getD i 0/\am.getD i 0<=999):∀n:Nat,-999*(n:Int)<=zbo ss am k a n/\zbo ss am k a n<=999*(n:Int)
 | 0=>by simp [zbo]
 | n+1=>by have h1:=zpf ss am k a h n;have h2:=z0r (ztu (ss.getD n ⟨0,0,0,0,0,0,0⟩) k a) (h n);rw [zji];omega
structure SumR where
 kind:Int
 a:Int
 lo:Int
 hi:Int
 firm:Bool
 deriving DecidableEq
def zd3(ss:List Slip)(am:List Int)(m:SumR):Bool:=!decide (m.lo<=zbo ss am m.kind.toNat m.a ss.length/\zbo ss am m.kind.toNat m.a ss.length<=m.hi)
def zao(ss:List Slip)(ms:List SumR)(am:List Int)(n:Nat):List Int:=((List.range n).filter λj=>zd3 ss am (ms.getD j ⟨0,0,0,0,false⟩)).map λj:Nat=>(j:Int)
theorem zcr(ss:List Slip)(ms:List SumR)(am:List Int)(n:Nat):zao ss ms am (n+1)=zao ss ms am n++(if zd3 ss am (ms.getD n ⟨0,0,0,0,false⟩) then [(n:Int)] else []):=by unfold zao;rw [kdp,kch,kbt];congr 1;simp only [kdk,kd0];split<;>rfl
theorem zo7(ss:List Slip)(ms:List SumR)(am:List Int)(n:Nat):(zao ss ms am n).length<=n:=by unfold zao;rw [ka6];exact kak (kbc _ _) od
def zhq(ss:List Slip)(wr:List Int)(sg:List Bool):Nat->List Int
 | 0=>[0,0,0,0,0,0]
 | n+1=>if (ss.getD n ⟨0,0,0,0,0,0,0⟩).kind=5 then (if sg.getD n false then (zhq ss wr sg n).set (ss.getD n ⟨0,0,0,0,0,0,0⟩).for_.toNat (wr.getD n 0) else zhq ss wr sg n) else (zhq ss wr sg n).set n (wr.getD n 0)
theorem zfy(ss:List Slip)(wr:List Int)(sg:List Bool):∀n,(zhq ss wr sg n).length=6
 | 0=>rfl
 | n+1=>by unfold zhq;split<;>(try split)<;>simp [zfy ss wr sg n]
theorem z5b(l:List Int)(h:l.length=6):∃x0 x1 x2 x3 x4 x5,l=[x0,x1,x2,x3,x4,x5]:=by
 match l,h with
 | [x0,x1,x2,x3,x4,x5],_=>exact⟨x0,x1,x2,x3,x4,x5,rfl⟩
def zcx(ss:List Slip)(am:List Int):Nat->List Int
 | 0=>[0,0,0,0,0,0]
 | n+1=>if (ss.getD n ⟨0,0,0,0,0,0,0⟩).kind=3 then (zcx ss am n).set (ss.getD n ⟨0,0,0,0,0,0,0⟩).for_.toNat ((zcx ss am n).getD (ss.getD n ⟨0,0,0,0,0,0,0⟩).for_.toNat 0+am.getD n 0) else zcx ss am n
theorem zm6(ss:List Slip)(am:List Int):∀n,(zcx ss am n).length=6
 | 0=>rfl
 | n+1=>by unfold zcx;split<;>simp [zm6 ss am n]
theorem zw1(ss:List Slip)(am:List Int)(h:∀i,0<=am.getD i 0/\am.getD i 0<=999):∀(n j:Nat),0<=(zcx ss am n).getD j 0/\(zcx ss am n).getD j 0<=999*(n:Int)
 | 0,j=>by
   have:(zcx ss am 0).getD j 0=0:=by
    match j with
    | 0|1|2|3|4|5=>rfl
    | j+6=>rfl
   omega
 | n+1,j=>by
   have h1:=zw1 ss am h n;have h2:=h n;unfold zcx;split
   .generalize (ss.getD n ⟨0,0,0,0,0,0,0⟩).for_.toNat=f;have h3:=h1 f;have h4:=h1 j;by_cases he:f=j
    .subst he;by_cases hl:f<(zcx ss am n).length
     .rw [kai,kc5 hl];simp only [kcp];omega
     .rw [kai,kay (oa hl)];simp only [Option.getD_none];omega
    .rw [kai,kdg he,<-List.getD_eq_getElem?_getD];omega
   .have h4:=h1 j;omega
def zdg(ss:List Slip)(am:List Int):Bool:=(List.range 6).all λj=>decide ((zcx ss am ss.length).getD j 0<=am.getD j 0)
theorem zgi:Tryz.prog.underlying 97=some (.array 6 3):=by kernel_rfl
def z5i(p:Int->Bool)(xs:List Int):Int:=match xs.findIdx? p with|some i=>(i:Int)|none=>-1
theorem z1c(p:Int->Bool)(xs:List Int):decide (0<=z5i p xs)=xs.any p:=by
 unfold z5i;cases h:xs.findIdx? p with
 | none =>
   rw [kcb] at h;have:xs.any p=false:=by rw [List.any_eq_false];intro x hx;simpa using h x hx
   rw [this];rfl
 | some i =>have h2:=kbk.1 h;obtain⟨hi,hp,_⟩:=h2;have:xs.any p=true:=kaz.2 ⟨xs[i],kbf hi,hp⟩;rw [this];simp
def ybf(ms:List SumR)(xs:List Int):Bool:=!xs.any λi=>(ms.getD i.toNat ⟨0,0,0,0,false⟩).firm
def zan(ss:List Slip)(ms:List SumR)(am:List Int):List Int:=zao ss ms am ms.length
def zeh(most:Int)(ss:List Slip)(ms:List SumR)(am:List Int):Bool:=decide (((zan ss ms am).length:Int)<=most)&&ybf ms (zan ss ms am)&&zdg ss am
theorem zd9(ss:List Slip)(ms:List SumR)(am:List Int):∀x∈zan ss ms am,0<=x/\x<(ms.length:Int):=by intro x hx;unfold zan zao at hx;obtain⟨j,hj,rfl⟩:=kav.1 hx;have:=(kbw.1 hj).1;rw [ka3] at this;omega
structure z80(ss:List Slip)(ms:List SumR):Prop where
 nss:ss.length<=6
 nms:ms.length<=5
 kind:∀m∈ms,0<=m.kind/\m.kind<5
 for3:∀(i:Nat) (s:Slip),ss[i]?=some s->s.kind=3->0<=s.for_/\s.for_<(i:Int)
 for5:∀(i:Nat) (s:Slip),ss[i]?=some s->s.kind=5->0<=s.for_/\s.for_<(i:Int)
def zhn(am:List Int):Prop:=∀i,0<=am.getD i 0/\am.getD i 0<=999
abbrev zd6:=List Int×List Bool
def zbr(lo hi:Int):List Int:=(List.range (hi-lo+1).toNat).map λj:Nat=>lo+(j:Int)
def zks(ss:List Slip):Nat->Nat->List Int->List Bool->List zd6
 | 0,_,pw,sg=>[(pw,sg)]
 | m+1,i,pw,sg=>(zbr (ss.getD i ⟨0,0,0,0,0,0,0⟩).lo (ss.getD i ⟨0,0,0,0,0,0,0⟩).hi).flatMap λn =>
   (if (ss.getD i ⟨0,0,0,0,0,0,0⟩).signed≠1 then zks ss m (i+1) (pw.set i n) (sg.set i false) else [])++
   (if (ss.getD i ⟨0,0,0,0,0,0,0⟩).kind=5/\(ss.getD i ⟨0,0,0,0,0,0,0⟩).signed≠2 then zks ss m (i+1) (pw.set i n) (sg.set i true) else [])
def z0a(pw:List Int)(sg:List Bool):Value :=
 .agg #[.int .i64 (pw.getD 0 0),.int .i64 (pw.getD 1 0),.int .i64 (pw.getD 2 0),.int .i64 (pw.getD 3 0),.int .i64 (pw.getD 4 0),.int .i64 (pw.getD 5 0),
  .bool (sg.getD 0 false),.bool (sg.getD 1 false),.bool (sg.getD 2 false),.bool (sg.getD 3 false),.bool (sg.getD 4 false),.bool (sg.getD 5 false)]
theorem znw(lo hi:Int)(q:Nat)(hq:lo+(q:Int)<=hi):(zbr lo hi).take (q+1)=(zbr lo hi).take q++[lo+(q:Int)]/\zbr lo hi=(zbr lo hi).take q++(lo+(q:Int))::(zbr lo hi).drop (q+1):=by
 have hl:q<(zbr lo hi).length:=by simp only [zbr,ka6,List.length_range];omega
 have hg:(zbr lo hi)[q]=lo+(q:Int):=by simp [zbr]
 refine⟨by rw [kb8,kaa hl,hg];rfl,?_⟩;rw [<-hg,kb5,kd9]
theorem z0y(l:List Bool)(h:l.length=6):∃x0 x1 x2 x3 x4 x5,l=[x0,x1,x2,x3,x4,x5]:=by
 match l,h with
 | [x0,x1,x2,x3,x4,x5],_=>exact⟨x0,x1,x2,x3,x4,x5,rfl⟩
def zgf(ss:List Slip):List zd6:=zks ss ss.length 0 [0,0,0,0,0,0] [false,false,false,false,false,false]
end Go.Kp
namespace Go.Kp
open Go
def zae(ss:List Slip)(n:Nat):List Int:=((List.range n).filter λj=>decide ((ss.getD j ⟨0,0,0,0,0,0,0⟩).kind=5)).map λj:Nat=>(j:Int)
theorem zbn(ss:List Slip)(n:Nat):zae ss (n+1)=zae ss n++(if (ss.getD n ⟨0,0,0,0,0,0,0⟩).kind=5 then [(n:Int)] else []):=by unfold zae;rw [kdp,kch,kbt];congr 1;simp only [kdk,kd0];split<;>simp_all
theorem zfi(ss:List Slip)(n:Nat):(zae ss n).length<=n:=by unfold zae;rw [ka6];exact kak (kbc _ _) od
def zh0:Nat->Int
 | 1=>4
 | 2=>3
 | _=>0
def zc8(k a:Int):Int:=if 0<=k/\k<=4/\0<=a/\a<=zh0 k.toNat then 0 else 1
def zh7(most:Int)(n:Nat):Int:=if 0<=most/\most<=2 then (if 6<n then 2 else 0) else 1
def zcc(m:SumR):Bool:=decide (zc8 m.kind m.a≠0)||!decide (-9999<=m.lo/\m.lo<=m.hi/\m.hi<=9999)
def zhz(ms:List SumR):Int:=if 5<ms.length then 2 else if ms.any zcc then 1 else 0
def zpl(s:Slip):Int:=if ¬(0<=s.lo/\s.lo<=s.hi/\s.hi<=999)\/s.hi-s.lo >= 3 then 1 else if ¬(0<=s.signed/\s.signed<=2)\/s.kind≠5/\s.signed≠0 then 1 else 0
def ze6(ss:List Slip)(i:Nat)(s:Slip):Int :=
 if ¬(0<=s.kind/\s.kind<=5) then 1
 else if ¬(0<=s.dept/\s.dept<=(if s.kind=4\/s.kind=5 then 0 else 4))\/¬(0<=s.clerk/\s.clerk<=3) then 1
 else if s.kind=3\/s.kind=5 then
  if ¬(0<=s.for_/\s.for_<=(i:Int)-1) then 6
  else if (s.kind=3/\¬((ss.getD s.for_.toNat ⟨0,0,0,0,0,0,0⟩).kind=0\/(ss.getD s.for_.toNat ⟨0,0,0,0,0,0,0⟩).kind=1))\/(s.kind=5/\(ss.getD s.for_.toNat ⟨0,0,0,0,0,0,0⟩).kind=5) then 7
  else zpl s
 else if s.for_≠-1 then 1 else zpl s
end Go.Kp
namespace Go.Ab
open Go Go.RowKit Go.Kp
section
variable{C:Cx}{N:Nat}{s:AS}{d:Nat}{t ty e:TypeId}{pos:String}{af:Array Edge}{g:Option (Nat×Bool)}{x y:Operand}{k:IntKind}{q:Int}{n m:Nat}{ti:TI}
theorem z3f{xs:List AV}{z:AV}(hd:d<N)(hx:ev s x=some (.agg xs))(hy:ev s y=some (.val (.int k q)))(hu:C.P.underlying t=some (.array m e))(ht:C.ti e=some ti)(ha:ti.agg=false)(hs:ti.size=1)(hq:q=(n:Int))(hn:n<m)(hz:xs[n]?=some z) :
  AOp C N ⟨some d,.index t x y,ty,pos,af,g⟩ (rds x++rds y) s [(2*d,.av z)] :=
 zau hd λw0 E s' a w hR hr=>by
  have hx':=zat hR (λ_ h=>by simp [h]) hx;have he2:=(hr.ev (zat hR (λ_ h=>by simp [h]) hy)).val_eq;have h1:=hr.ev hx';generalize he:a.eval x=v at h1;cases h1 with
  | agg xs vs hl h =>
    have hlt:n<vs.length:=by rw [<-hl];exact(kab.1 hz).1
    have hv:vs[n]?=some vs[n]:=kaa hlt;have hrep:=h n z vs[n] hz hv;refine⟨vs[n],?_,hrep,λi hi=>?_⟩
    .subst hq;have hsz:=Cx.ti_size ht w;rw [hs] at hsz;have hag:=Cx.ti_agg ht w;rw [ha] at hag;have h2:(0:Int)<=(n:Int)/\(n:Int)<(m:Int):=oc
     simp [execOp,he,he2,Instr.index,asIntOf,run_underlying hu,hsz,hag,h2,part,hv];intro hh;omega
    .exact hr.ev_scp hx' i (by simp only [AV.ids];exact zep hz i hi)
theorem zuk{R:List Nat}:AFt C ⟨some d,.index t x y,ty,pos,af,g⟩ R s:=λN w0 E s' a w hR hr=>by
 unfold execOp;refine zjc ?_;unfold Instr.index;rw [ft_bind];refine zfg _ λ_=>?_;dsimp only;rw [ft_bind];refine zai _ λ_ _=>?_;split
 .split
  .unfold part;exact fA
  .exact zdr _ _ _ _
 .split<;>first|exact trivial|exact zdr _ _ _ _
 .exact trivial
end
end Go.Ab
namespace Go.Kp
open Go Go.Conc
section
variable{P:Program}{b:Frame}{a:Act}{k:List Item}{cs:List Frame}{w:World}
theorem gR_range{f:Operand}{ps:Array Tmp}{c d:Code}:stepG P true (G (b.atR a (.code (.rangeFunc f ps c d)::k)) cs) w=GStep.after (seen P b.fn ((Instr.enterLoop b.fn a.tmps ps c d b.roundOf).runT P w #[]).2) (match ((Instr.enterLoop b.fn a.tmps ps c d b.roundOf).runT P w #[]).1 with
 | .ok (l,mark) w=>stepG.apply P true (b.atR { a with defers:=mark++a.defers } (.inRangeFunc l::k)) cs none (do let d <-resolve (b.atR a (.code (.rangeFunc f ps c d)::k)).eval { callee:=.value f,args:=#[.const (.func (.yield l) #[] #[])],argTypes:=#[] } 0;invoke d.target d.args) w
 | .halt _ w => .ended (.stuck "range over a function: no such loop" ((b.atR a (.code (.rangeFunc f ps c d) :: k)).pos P)) w) := rfl
theorem gR_endRange{l:Nat}:stepG P true (G (b.atR a (.endRangeFunc l::k)) cs) w=GStep.after (seen P b.fn ((Instr.endLoop l).runT P w #[]).2) (match ((Instr.endLoop l).runT P w #[]).1 with
 | .ok jump w=>.go (G (b.atR a ((jump.map Item.code).toList++k)) cs) w
 | .halt (.panic v) w=>.go (G ((b.atR a (.endRangeFunc l::k)).raise [{ v,recovered:=false }]) cs) w
 | .halt _ w => .ended (.stuck "range over a function: no such loop" ((b.atR a (.endRangeFunc l :: k)).pos P)) w) := rfl
theorem gR_begin{l:Nat}(hr:b.roundOf=some l):stepG P true (G (b.atR a (.beginRound::k)) cs) w=stepG.apply P true (b.atR a (.beginRound::k)) cs none (do Instr.beginRound l;pure .skip) w:=by simp only [stepG,G,Frame.atR,stepG.exec,hr];rfl
theorem gR_roundEnd{l:Nat}(hr:b.roundOf=some l)(hk:b.kind=.normal){c:Frame}:stepG P true (G (b.atR a []) (c::cs)) w=GStep.after (seen P b.fn ((Instr.endRound l none).runT P w #[]).2) (match ((Instr.endRound l none).runT P w #[]).1 with
  | .ok v w=>.go (G (c.finish v) cs) w
  | .halt _ w => .ended (.stuck "range over a function: no such loop" ((b.atR a []).pos P)) w) := by
 simp only [stepG,G,Frame.atR,stepG.exec,hr]
 cases hx:((Instr.endRound l none).runT P w #[]).1 with
 | ok v w'=>simp [doReturn,hk]
 | halt h w'=>simp
end
end Go.Kp
namespace Go.Kp
open Go
section
variable{A:Nat->Prop}{P:Program}
theorem ft_endRound(l:Nat)(j:Option Code)(hl:A l):Ft A P (λ_=>True) (Instr.endRound l j):=by
 unfold Instr.endRound Instr.getLoop;rw [ft_bind,ft_bind];refine zc4 hl λo ho=>?_;cases o with
 | loop r =>dsimp only;rw [zce,ft_bind];exact zec hl trivial trivial
 | _=>exact trivial
theorem ft_beginRound(l:Nat)(hl:A l):Ft A P (λ_=>True) (Instr.beginRound l):=by
 unfold Instr.beginRound Instr.getLoop;rw [ft_bind,ft_bind];refine zc4 hl λo ho=>?_;split
 .rw [zce,ft_bind];refine zec hl trivial ?_;split<;>first|exact trivial|exact zaq _ trivial
 .exact trivial
theorem ft_endLoop(l:Nat)(hl:A l):Ft A P (λ_=>True) (Instr.endLoop l):=by
 unfold Instr.endLoop Instr.getLoop;rw [ft_bind,ft_bind];refine zc4 hl λo ho=>?_;split
 .rw [zce];dsimp only;split
  .rw [ft_bind];exact zaq _ trivial
  .rw [ft_bind];exact zec hl trivial trivial
 .exact trivial
theorem ft_enterLoop(fn:FuncId)(tmps:Array Value)(ps:Array Tmp)(a b:Code)(ar:Option Nat)(har:∀l,ar=some l->A l):Ft A P (λ_=>True) (Instr.enterLoop fn tmps ps a b ar):=by
 unfold Instr.enterLoop;split
 .rename_i l;unfold Instr.getLoop;rw [ft_bind,ft_bind];refine zc4 (har l rfl) λo ho=>?_;split
  .rw [zce,ft_bind];exact zgw (P:=P) trivial λr hr=>trivial
  .exact trivial
 .rw [ft_bind];refine zgw trivial λr hr=>?_;dsimp only;rw [ft_bind];exact zgw (P:=P) trivial λr' hr'=>trivial
theorem ft_yield(l:Nat)(args:Array Value)(hl:A l):Ft A P (λ_=>True) (Instr.yield l args):=by
 unfold Instr.yield Instr.getLoop;rw [ft_bind,ft_bind];refine zc4 hl λo ho=>?_;split
 .rw [zce];dsimp only;split
  .rw [ft_bind];exact trivial
  .exact trivial
 .exact trivial
end
end Go.Kp
namespace Go.Ab
open Go Go.RowKit Go.Kp
open Go.ConcM (OsLater)
section
variable{G:zbf}{N:Nat}{F0:FB}{s s':AS}{σ σ' σ2:FSt}{a a':Act}{w w' w2:World}{E E':Env}
theorem FRel.lt(h:FRel G N F0 s σ a w E){b:Nat}(hb:E.imm b\/za1 E s b\/b∈E.dfs):b<w.heap.size:=by
 rcases hb with hb|⟨i,hi⟩|hb
 .exact h.rel.imm b hb
 .exact(h.rel.new i b hi).2.2
 .exact(kad.1 (h.rel.dfo.2 b hb).2).1
def snap(n:Nat)(w:World)(E:Env)(s:AS)(σ:FSt):FB:=⟨w,n,λb=>E.imm b/\b∉E.dfs,σ.Gb,λb=>b<w.heap.size/\¬(E.imm b\/za1 E s b\/b∈E.dfs)/\¬σ.Gb b⟩
theorem FRel.snap(h:FRel G N F0 s σ a w E):FRel G N (snap F0.n w E s σ) s σ a w E :=
 ⟨h.rel,h.avoid,h.bd,h.gs,h.near,h.nearN,kak h.nle h.size,kac _,λb hb=>by
   rcases hb with hb|hb
   .exact⟨hb.1,rfl,λhx=>hb.2.1 (.inr (.inl hx)),λhx=>hb.2.1 (.inr (.inr hx)),hb.2.2⟩
   .exact⟨h.rel.imm b hb.1,rfl,λ⟨i,hi⟩=>(h.rel.new i b hi).2.1 hb.1,hb.2,h.avoid b (.inl hb.1)⟩,h.dfsN,λb hb hf=>hf.2.1 (.inl hb),λb=>⟨id,λ_=>id⟩,OsLater.refl _,rfl⟩
theorem FRel.kept(_h:FRel G N F0 s σ a w E)(k:FRel G N (Ab.snap F0.n w E s σ) s' σ' a' w' E'){b:Nat}(hb:b<w.heap.size)(hh:¬za1 E s b)(hd:b∉E.dfs)(hg:¬σ.Gb b):w'.heap[b]?=w.heap[b]?/\¬za1 E' s' b/\b∉E'.dfs/\(¬E.imm b->¬E'.imm b)/\¬σ'.Gb b:=by
 by_cases hi:E.imm b
 .obtain⟨_,k2,k3,k4,k5⟩:=k.keep b (.inr ⟨hi,hd⟩);exact⟨k2,k3,k4,λhn=>absurd hi hn,k5⟩
 .have hf:(Ab.snap F0.n w E s σ).fr b:=⟨hb,λhx=>hx.elim hi λhx=>hx.elim hh hd,hg⟩;obtain⟨_,k2,k3,k4,k5⟩:=k.keep b (.inl hf);exact⟨k2,k3,k4,λ_ hx=>k.immO b hx hf,k5⟩
theorem FRel.back(h:FRel G N F0 s σ a w E)(k:FRel G N (Ab.snap F0.n w E s σ) s' σ' a' w' E'):FRel G N F0 s' σ' a' w' E' :=
 ⟨k.rel,k.avoid,k.bd,k.gs,k.near,k.nearN,h.nle,kak h.size k.size,λb hb=>by
   obtain⟨h1,h2,h3,h4,h5⟩:=h.keep b hb;obtain⟨k2,k3,k4,_,k5⟩:=h.kept k (kaf h1 h.size) h3 h4 h5;exact⟨h1,k2.trans h2,k3,k4,k5⟩,k.dfsN,λb hb hf=>by
   obtain⟨h1,h2,h3,h4,h5⟩:=h.keep b (.inl hf);exact(h.kept k (kaf h1 h.size) h3 h4 h5).2.2.2.1 (λhi=>h.immO b hi hf) hb,
   λb=>⟨λhg=>(k.gbO b).1 ((h.gbO b).1 hg),λhl hg=>(h.gbO b).2 hl ((k.gbO b).2 (kaf hl h.size) hg)⟩,h.os.trans k.os,k.out.trans h.out⟩
theorem FRel.less(h:FRel G N F0 s σ a w E){fr:Nat->Prop}(hs:∀b,fr b->F0.fr b):FRel G N { F0 with fr:=fr } s σ a w E :=
 ⟨h.rel,h.avoid,h.bd,h.gs,h.near,h.nearN,h.nle,h.size,λb hb=>h.keep b (hb.imp (hs b) id),h.dfsN,λb hb hf=>h.immO b hb (hs b hf),h.gbO,h.os,h.out⟩
structure z8y(n:Nat)(fr Gb:Nat->Prop)(w:World)(σ1:FSt)(w1:World):Prop where
 size:w.heap.size<=w1.heap.size
 keep:∀b,b<w.heap.size->b<n\/fr b->¬Gb b->w1.heap[b]?=w.heap[b]?
 gb:∀b,(Gb b->σ1.Gb b)/\(b<w.heap.size->σ1.Gb b->Gb b)
 bd:σ1.B<=w1.heap.size
 gs:∀x,σ1.Gb x->x<w1.heap.size
 os:OsLater w.os w1.os
 out:w1.output=w.output
 near:∀b o,n<=b->¬σ1.Gb b->w1.heap[b]?=some o->Near o
structure zo4(n:Nat)(fr:Nat->Prop)(σ1:FSt)(w1:World)(fr':Nat->Prop)(σ2:FSt)(w2:World):Prop where
 size:w1.heap.size<=w2.heap.size
 keep:∀b,b<w1.heap.size->¬fr b->¬σ1.Gb b->w2.heap[b]?=w1.heap[b]?
 new:∀b,fr' b->(fr b\/w1.heap.size<=b)/\b<w2.heap.size/\¬σ2.Gb b
 gb:∀b,(σ1.Gb b->σ2.Gb b)/\(b<w1.heap.size->σ2.Gb b->σ1.Gb b)
 bd:σ2.B<=w2.heap.size
 gs:∀x,σ2.Gb x->x<w2.heap.size
 os:OsLater w1.os w2.os
 out:w2.output=w1.output
 near:∀b o,n<=b->fr b\/w1.heap.size<=b->¬σ2.Gb b->w2.heap[b]?=some o->Near o
theorem FRel.idle(h:FRel G N F0 s σ a w E)(fr:Nat->Prop):z8y F0.n fr σ.Gb w σ w :=
 ⟨kac _,λ_ _ _ _=>rfl,λ_b=>⟨id,λ_=>id⟩,h.bd,h.gs,OsLater.refl _,rfl,h.nearN⟩
structure Frj{β:Type}(Jx:List β->(Nat->Prop)->(Nat->Prop)->World->Prop)(n:Nat)(F0:FB)(s:AS)(σ:FSt)(w:World)(E:Env)(out:List β)(FJ Gf:Nat->Prop)(wf:World):Prop where
 le:n<=F0.n
 j:Jx out FJ Gf wf
 idle:z8y n FJ Gf wf σ w
 dis:∀b,FJ b->b<wf.heap.size/\¬F0.fr b/\¬F0.imm b/\¬E.imm b/\¬za1 E s b/\b∉E.dfs/\¬σ.Gb b
variable{β:Type}{Jx:List β->(Nat->Prop)->(Nat->Prop)->World->Prop}{out:List β}{FJ FJ' Gf Gf':Nat->Prop}{wf wf':World}{n:Nat}
theorem Frj.run(hr:FRel G N F0 s σ a w E)(hf:Frj Jx n F0 s σ w E out FJ Gf wf)(k:FRel G N (Ab.snap F0.n w E s σ) s' σ' a' w' E'):Frj Jx n F0 s' σ' w' E' out FJ Gf wf:=by
 refine⟨hf.le,hf.j,⟨kak hf.idle.size k.size,λb hb hc hG=>?_,λb=>⟨λhg=>(k.gbO b).1 ((hf.idle.gb b).1 hg),λhl hg=>(hf.idle.gb b).2 hl ((k.gbO b).2 (kaf hl hf.idle.size) hg)⟩,k.bd,k.gs,hf.idle.os.trans k.os,k.out.trans hf.idle.out,λb o hb hg ho=>?_⟩,λb hb=>?_⟩
 .have hlt:=kaf hb hf.idle.size;refine(hr.kept k hlt (λhx=>?_) (λhx=>?_) λhx=>hG ((hf.idle.gb b).2 hb hx)).1.trans (hf.idle.keep b hb hc hG)
  .rcases hc with hc|hc
   .have:=hr.heldN hx;have:=hf.le;omega
   .exact(hf.dis b hc).2.2.2.2.1 hx
  .rcases hc with hc|hc
   .have:=hr.dfsN b hx;have:=hf.le;omega
   .exact(hf.dis b hc).2.2.2.2.2.1 hx
 .rcases kae b F0.n with h1|h1
  .have h2:=kaf h1 (kak hr.nle hr.size);exact hf.idle.near b o hb (λhg2=>hg ((k.gbO b).1 hg2)) ((hr.kept k h2 (λhx=>by have:=hr.heldN hx;omega) (λhx=>by have:=hr.dfsN b hx;omega) λhg2=>hg ((k.gbO b).1 hg2)).1.symm.trans ho)
  .exact k.nearN b o h1 hg ho
 .obtain⟨h1,h2,h3,h4,h5,h6,h7⟩:=hf.dis b hb;obtain⟨_,k2,k3,k4,k5⟩:=hr.kept k (kaf h1 hf.idle.size) h5 h6 h7;exact⟨h1,h2,h3,k4 h4,k2,k3,k5⟩
theorem Frj.nearS(hf:Frj Jx n F0 s σ w E out FJ Gf wf)(hr:FRel G N F0 s σ a w E)(hs:zo4 n FJ σ w FJ' σ2 w2)(b:Nat)(o:Obj)(hb:n<=b)(hg:¬σ2.Gb b)(ho:w2.heap[b]?=some o):Near o:=by
 have _:=hr;by_cases hx:FJ b\/w.heap.size<=b
 .exact hs.near b o hb hx hg ho
 .have h1:¬FJ b:=λh=>hx (.inl h);have h2:b<w.heap.size:=Nat.lt_of_not_le λh=>hx (.inr h);have hg3:¬σ.Gb b:=λhg2=>hg ((hs.gb b).1 hg2);exact hf.idle.near b o hb hg3 ((hs.keep b h2 h1 hg3).symm.trans ho)
theorem Frj.moved(hf:Frj Jx n F0 s σ w E out FJ Gf wf)(hr:FRel G N F0 s σ a w E){out':List β}(hj:Jx out' FJ' Gf' wf')(hi:z8y n FJ' Gf' wf' σ2 w2)(hl:∀b,FJ' b->b<wf'.heap.size)(hs:zo4 n FJ σ w FJ' σ2 w2):FRel G N F0 s σ2 a w2 E/\Frj Jx n F0 s σ2 w2 E out' FJ' Gf' wf':=by
 have hcl:∀b,E.imm b\/za1 E s b\/b∈E.dfs->¬FJ b:=λb hb hx=>by obtain⟨_,_,_,h4,h5,h6,_⟩:=hf.dis b hx;exact hb.elim h4 λhb=>hb.elim h5 h6
 have hst:∀b,E.imm b\/za1 E s b\/b∈E.dfs->w2.heap[b]?=w.heap[b]?:=λb hb=>hs.keep b (hr.lt hb) (hcl b hb) (hr.avoid b hb);have hR:FRel G N F0 s σ2 a w2 E:=by
  refine⟨hr.rel.at hs.size (λb hb=>hst b oz) rfl rfl rfl (λ_ h=>h) λ_ h=>.inl h,λb hb hg=>hr.avoid b hb ((hs.gb b).2 (hr.lt hb) hg),hs.bd,hs.gs,
   λb o hb ho=>hr.near b o hb ((hst b (.inl hb)).symm.trans ho),λb o hb hg ho=>?_,hr.nle,kak hr.size hs.size,λb hb=>?_,hr.dfsN,hr.immO,λb=>⟨λhg=>(hs.gb b).1 ((hr.gbO b).1 hg),λhl hg=>(hr.gbO b).2 hl ((hs.gb b).2 (kaf hl hr.size) hg)⟩,hr.os.trans hs.os,hs.out.trans hr.out⟩
  .exact hf.nearS hr hs b o (kak hf.le hb) hg ho
  .obtain⟨h1,h2,h3,h4,h5⟩:=hr.keep b hb;refine⟨h1,(hs.keep b (kaf h1 hr.size) (λhx=>?_) h5).trans h2,h3,h4,λhx=>h5 ((hs.gb b).2 (kaf h1 hr.size) hx)⟩;obtain⟨_,g2,g3,_⟩:=hf.dis b hx;exact hb.elim g2 g3
 refine⟨hR,hf.le,hj,hi,λb hb=>?_⟩;obtain⟨h1,h2,h4⟩:=hs.new b hb;have h3:=hl b hb;rcases h1 with h1|h1
 .obtain⟨_,g2,g3,g4,g5,g6,_⟩:=hf.dis b h1;exact⟨h3,g2,g3,g4,g5,g6,h4⟩
 .have hn:=hr.size;refine⟨h3,λhx=>?_,λhx=>?_,λhx=>?_,λhx=>?_,λhx=>?_,h4⟩
  .have:=(hr.keep b (.inl hx)).1;omega
  .have:=(hr.keep b (.inr hx)).1;omega
  .have:=hr.lt (.inl hx);omega
  .have:=hr.lt (.inr (.inl hx));omega
  .have:=hr.lt (.inr (.inr hx));omega
theorem Frj.yielded{x:β}(hr:FRel G N F0 s σ a w E)(hf:Frj Jx n F0 s σ w E out FJ Gf wf)(hj:Jx (out++[x]) FJ' σ2.Gb w2)(hs:zo4 n FJ σ w FJ' σ2 w2):FRel G N F0 s σ2 a w2 E/\Frj Jx n F0 s σ2 w2 E (out++[x]) FJ' σ2.Gb w2 :=
 hf.moved hr hj ⟨kac _,λ_ _ _ _=>rfl,λ_b=>⟨id,λ_=>id⟩,hs.bd,hs.gs,OsLater.refl _,rfl,hf.nearS hr hs⟩ (λb hb=>(hs.new b hb).2.1) hs
end
namespace J
open Go.Kp (FSt jdgF WpR OpsR gR_round ft_yield ft_run)
def z8w(P:Program)(Post:Value->World->Prop)(l:Nat)(args:Array Value)(σ:FSt)(w:World)(R:FSt->World->Prop):Prop :=
 ¬σ.Gb l/\l<w.heap.size/\(∀o,w.heap[l]?=some o->Near o)/\∃fn tmps assign body,(∀d,(Instr.yield l args).run P (w.at d)=.ok (.round l fn tmps assign body) (w.at d))/\
  ∀(c:Frame) (cs:List Frame),(∀v,(c.finish v).mode=.run)->(∀σ' w',R σ' w'->(jdgF P Post).J σ' (Conc.G (c.finish (.bool true)) cs) w')->(jdgF P Post).J ⟨σ.Gb,w.heap.size⟩ (Conc.G (Frame.round l fn tmps assign body .normal) (c::cs)) w
def zyq{β:Type}(P:Program)(Post:Value->World->Prop)(Jx:List β->(Nat->Prop)->(Nat->Prop)->World->Prop)(n l:Nat)(encV:β->Array Value)(xs:List β):Prop :=
 ∀pre x rest FJ Gf wf σ1 w1,xs=pre++x::rest->Jx pre FJ Gf wf->z8y n FJ Gf wf σ1 w1->(∀b,FJ b->b<wf.heap.size/\¬σ1.Gb b)->z8w P Post l (encV x) σ1 w1 λσ2 w2=>∃FJ',Jx (pre++[x]) FJ' σ2.Gb w2/\zo4 n FJ σ1 w1 FJ' σ2 w2
def zs6{α:Type}(C:Cx)(f:FuncId)(cap:List AV)(encV:α->Array Value)(xs:List α):Prop :=
 zdc C.P f=true/\∀(Post:Value->World->Prop) (imm:Nat->Prop) σ w vs (l:Nat) (FJ:Nat->Prop) (Jx:List α->(Nat->Prop)->(Nat->Prop)->World->Prop),
  zs7 imm σ w->zb3 C.G (zca imm) w->yf1 (zca imm) w cap vs->(∀b,FJ b->b<w.heap.size/\¬imm b/\¬σ.Gb b)->Jx [] FJ σ.Gb w->zyq C.P Post Jx w.heap.size l encV xs->
  zo5 C.P Post f (#[.func (.yield l) #[] #[]]++vs.toArray) σ w λσ' _v w'=>∃FJ' Gf wf,Jx xs FJ' Gf wf/\z8y w.heap.size FJ' Gf wf σ' w'
section
variable{C:Cx}{Post:Value->World->Prop}{r:Option Nat}{fn:FuncId}{ops:Array Oper}{i:Nat}{rest:List Nat}{o:Oper}{Q:Exit->FSt->Act->World->Prop}{σ:FSt}{a:Act}{w:World}
theorem zyg{ρ:Operand->Value}{x:Operand}{xs:Array Operand}{ts:Array TypeId}{l:Nat}{d:Option Tmp}{ty:TypeId}{pos:String}{af:Array Edge}{g:Option (Nat×Bool)}(hx:ρ x=.func (.yield l) #[] #[]) :
  execOp ρ ⟨d,.call { callee:=.value x,args:=xs,argTypes:=ts },ty,pos,af,g⟩=Instr.yield l (xs.map ρ):=by
 unfold execOp
 simp [resolve,Deferred.ofValue,invoke,hx,Bind.bind,Sem.bind,Pure.pure]
theorem zxw{l:Nat}{args:Array Value}{R:FSt->World->Prop}(ho:ops[i]?=some o)(hw:Region.wanted o (yielded ops a.tmps)=true)(hn:∀c,o.op≠.defer c)(hbd:σ.B<=w.heap.size)(hgs:∀x,σ.Gb x->x<w.heap.size)
  (he:execOp a.eval o=Instr.yield l args) (hY:z8w C.P Post l args σ w R) (hK:∀σ' w',R σ' w'->OpsR (jdgF C.P Post) r fn ops rest Q σ' (a.put o.dst (.bool true)) w'):OpsR (jdgF C.P Post) r fn ops (i::rest) Q σ a w:=by
 intro b k cs hb hk hro hc
 obtain⟨hG,hl,hnr,fn2,tmps,assign,body,hy,hgo⟩:=hY
 have hfin:∀v,(b.atR a (.inRegion ops (i::rest)::k)).finish v=b.atR (a.put o.dst v) (.inRegion ops rest::k):=λv=>by rw [Frame.finish_atR,ho];rfl
 have hj:=hgo (b.atR a (.inRegion ops (i::rest)::k)) cs (λv=>by rw [hfin];rfl) λσ' w' hR=>by rw [hfin];exact hK σ' w' hR b k cs hb hk hro hc
 refine(jdgF C.P Post).step rfl rfl λw1 hs=>?_
 obtain⟨d,rfl⟩:=hs
 refine⟨_,w.at d,Conc.listed C.P b.fn a o (w.at d),⟨σ.Gb,w.heap.size⟩,gR_round ho hw hn hk (by rw [he];exact hy d),rfl,⟨λ_ h=>h,hbd,λe hev=>?_⟩,(jdgF C.P Post).rely ⟨d,rfl⟩ hj⟩
 obtain⟨rs,new,k1,k2,_⟩:=ft_run (A:=λb=>b=l\/w.heap.size<=b) (P:=C.P) _ (ft_yield l args (.inl rfl)) (w.at d) #[] (λb o hb ho=>by
  rcases hb with rfl|hb
  .exact hnr o ho
  .have:=(kad.1 ho).1;rw [show(w.at d).heap=w.heap from rfl] at this;omega) λr hr=>.inr hr
 have e3:Result.wld rs=w.at d:=by have h1:=Sem.runT_fst C.P (Instr.yield l args) (w.at d) #[];rw [k1] at h1;rw [show rs=_ from h1,hy d];rfl
 have hev2:e∈new:=by
  have h1:(execOp a.eval o).events C.P (w.at d) #[]=new:=by rw [he];have:=congrArg Prod.snd k1;rw [kcf] at this;exact this
  rw [<-h1];exact seen_sub hev
 have h2:=k2.evs e hev2
 rw [e3] at h2
 exact zjx (λb hb=>hb.elim (λhb=>hb▸hG) λhb hg=>by have:=hgs b hg;omega) h2
end
end J
end Go.Ab
namespace Go.Ab.J
open Go Go.RowKit
open Go.Kp (FSt jdgF WpR OpsR Ft EvA ft_run ft_bind ft_mono ft_beginRound ft_endRound ft_endLoop ft_enterLoop gR_begin gR_roundEnd gR_endRange gR_range Near seen_sub)
section
variable{P:Program}{Post:Value->World->Prop}{σ:FSt}{w w':World}{b:Frame}{a:Act}{k:List Item}{cs:List Frame}{c:Frame}{l:Nat}
theorem zhc{α:Type}{m:Sem α}{v:α}{Q:α->Prop}(hf:Ft (λb=>b=l\/w.heap.size<=b) P Q m)(hn:∀o,w.heap[l]?=some o->Near o)(hr:∀d,m.run P (w.at d)=.ok v (w'.at d))(d:Nat) :
  ∀e∈m.events P (w.at d) #[],EvA (λb=>b=l\/w.heap.size<=b) w'.heap.size e:=by
 intro e he
 obtain⟨rs,new,k1,k2,_⟩:=ft_run (A:=λb=>b=l\/w.heap.size<=b) (P:=P) _ hf (w.at d) #[] (λb o hb ho=>by
  rcases hb with rfl|hb
  .exact hn o ho
  .have:=(kad.1 ho).1;rw [show(w.at d).heap=w.heap from rfl] at this;omega) λr hr=>.inr hr
 have e3:rs=.ok v (w'.at d):=by have h1:=Sem.runT_fst P m (w.at d) #[];rw [k1] at h1;exact h1.trans (hr d)
 have h2:m.events P (w.at d) #[]=new:=by have:=congrArg Prod.snd k1;rw [kcf] at this;exact this
 rw [h2] at he
 have:=k2.evs e he
 rw [e3] at this
 exact this
theorem zm7(hG:¬σ.Gb l)(hgs:∀x,σ.Gb x->x<w.heap.size):∀x,x=l\/w.heap.size<=x->¬σ.Gb x:=λx hx=>hx.elim (λh=>h▸hG) λh hg=>by have:=hgs x hg;omega
theorem yb9{r:Loop}(hro:b.roundOf=some l)(hk:b.kind≠.early)(hG:¬σ.Gb l)(hB:σ.B<=w.heap.size)(hgs:∀x,σ.Gb x->x<w.heap.size)(hl:w.heap[l]?=some (.loop r))(hr:r.state=.ready)
  (hj:(jdgF P Post).J ⟨σ.Gb,w.heap.size⟩ (Conc.G (b.atR a k) cs) (w.putObj l (.loop { r with state:=.busy }))):(jdgF P Post).J σ (Conc.G (b.atR a (.beginRound::k)) cs) w:=by
 refine z3t (A:=λb=>b=l\/w.heap.size<=b) (w':=w.putObj l (.loop { r with state:=.busy })) (g':=Conc.G (b.atR a k) cs) rfl rfl rfl (zm7 hG hgs) hB (λd=>?_) oK (by rw [World.putObj_size];exact hj)
 have hrun:∀d,(do Instr.beginRound l;pure Next.skip:Sem Next).run P (w.at d)=.ok .skip ((w.putObj l (.loop { r with state:=.busy })).at d):=λd=>by rw [Sem.run_bind,run_beginRound (w:=w.at d) hl hr];rfl
 have hk':(b.kind == CallKind.early)=false:=oa hk
 refine⟨seen P b.fn ((do Instr.beginRound l;pure Next.skip:Sem Next).events P (w.at d) #[]),?_,λe he=>zhc (Q:=λ_=>True) (by rw [ft_bind];exact ft_mono (ft_beginRound l (.inl rfl)) λ_ _=>trivial) (λo ho=>by rw [hl] at ho;cases ho;trivial) hrun d e (seen_sub he)⟩
 rw [gR_begin hro]
 obtain⟨S,hS⟩:∃S:Sem Next,S=(do Instr.beginRound l;pure Next.skip:Sem Next):=⟨_,rfl⟩
 have hr2:=hrun d
 rw [<-hS] at hr2 |-
 simp [stepG.apply,hr2,Conc.G,Frame.atR,Frame.finish,hk',GStep.after]
theorem zyo{r:Loop}(hro:b.roundOf=some l)(hk:b.kind=.normal)(hG:¬σ.Gb l)(hB:σ.B<=w.heap.size)(hgs:∀x,σ.Gb x->x<w.heap.size)(hl:w.heap[l]?=some (.loop r))(_hm:(c.finish (.bool true)).mode=.run)
  (hj:(jdgF P Post).J ⟨σ.Gb,w.heap.size⟩ (Conc.G (c.finish (.bool true)) cs) (w.putObj l (.loop { r with state:=.ready,pending:=none }))):(jdgF P Post).J σ (Conc.G (b.atR a []) (c::cs)) w:=by
 refine z3t (A:=λb=>b=l\/w.heap.size<=b) (w':=w.putObj l (.loop { r with state:=.ready,pending:=none })) (g':=Conc.G (c.finish (.bool true)) cs) rfl rfl rfl (zm7 hG hgs) hB (λd=>?_) oK (by rw [World.putObj_size];exact hj)
 have hrun:∀d,(Instr.endRound l none).run P (w.at d)=.ok (.bool true) ((w.putObj l (.loop { r with state:=.ready,pending:=none })).at d):=λd=>by rw [run_endRound (w:=w.at d) none hl];rfl
 refine⟨seen P b.fn ((Instr.endRound l none).events P (w.at d) #[]),?_,λe he=>zhc (ft_endRound l none (.inl rfl)) (λo ho=>by rw [hl] at ho;cases ho;trivial) hrun d e (seen_sub he)⟩
 rw [gR_roundEnd hro hk]
 simp [hrun d,GStep.after]
theorem z3u{r:Loop}(hG:¬σ.Gb l)(hB:σ.B<=w.heap.size)(hgs:∀x,σ.Gb x->x<w.heap.size)(hl:w.heap[l]?=some (.loop r))(hs:r.state≠.busy)(hp:r.pending=none)
  (hj:(jdgF P Post).J ⟨σ.Gb,w.heap.size⟩ (Conc.G (b.atR a k) cs) (w.putObj l (.loop { r with state:=.exhausted }))):(jdgF P Post).J σ (Conc.G (b.atR a (.endRangeFunc l::k)) cs) w:=by
 refine z3t (A:=λb=>b=l\/w.heap.size<=b) (w':=w.putObj l (.loop { r with state:=.exhausted })) (g':=Conc.G (b.atR a k) cs) rfl rfl rfl (zm7 hG hgs) hB (λd=>?_) oK (by rw [World.putObj_size];exact hj)
 have hrun:∀d,(Instr.endLoop l).run P (w.at d)=.ok none ((w.putObj l (.loop { r with state:=.exhausted })).at d):=λd=>by rw [run_endLoop (w:=w.at d) hl hs,hp];rfl
 refine⟨seen P b.fn ((Instr.endLoop l).events P (w.at d) #[]),?_,λe he=>zhc (ft_endLoop l (.inl rfl)) (λo ho=>by rw [hl] at ho;cases ho;trivial) hrun d e (seen_sub he)⟩
 rw [gR_endRange]
 simp [hrun d,GStep.after]
def zrj(fn:FuncId)(a:Act)(ps:Array Tmp)(assign body:Code)(D:Nat)(st:LoopState)(pe:Option Code):Loop:={ state:=st,pending:=pe,fn,tmps:=a.tmps,params:=ps,assign,body,defers:=D }
theorem yb8{g:Operand}{ps:Array Tmp}{assign body:Code}{f:FuncId}{lb:Array Value}(hro:b.roundOf=none)(hk:b.kind≠.early)(hB:σ.B<=w.heap.size)(hgs:∀x,σ.Gb x->x<w.heap.size)(hg:a.eval g=.func (.func f) #[] lb)(hc:zdc P f=true)
  (hj:(jdgF P Post).J ⟨σ.Gb,w.heap.size+2⟩ (Conc.G (Frame.enter P f (#[.func (.yield (w.heap.size+1)) #[] #[]]++lb) .normal) (b.atR { a with defers:=clD w.heap.size::a.defers } (.inRangeFunc (w.heap.size+1)::k)::cs))
    ((w.alloc (.deferred (some []))).alloc (.loop (zrj b.fn a ps assign body w.heap.size .ready none)))):(jdgF P Post).J σ (Conc.G (b.atR a (.code (.rangeFunc g ps assign body)::k)) cs) w:=by
 have hsz:((w.alloc (.deferred (some []))).alloc (.loop (zrj b.fn a ps assign body w.heap.size .ready none))).heap.size=w.heap.size+2:=od
 refine z3t (A:=λb=>w.heap.size<=b) (w':=(w.alloc (.deferred (some []))).alloc (.loop (zrj b.fn a ps assign body w.heap.size .ready none)))
  (g':=Conc.G (Frame.enter P f (#[.func (.yield (w.heap.size+1)) #[] #[]]++lb) .normal) (b.atR { a with defers:=clD w.heap.size::a.defers } (.inRangeFunc (w.heap.size+1)::k)::cs)) rfl rfl rfl (λx hx hg=>by have:=hgs x hg;omega) hB (λd=>?_) (by rw [hsz];omega) (by rw [hsz];exact hj)
 have hrun:∀d,(Instr.enterLoop b.fn a.tmps ps assign body none).run P (w.at d)=.ok (w.heap.size+1,[clD w.heap.size]) (((w.alloc (.deferred (some []))).alloc (.loop (zrj b.fn a ps assign body w.heap.size .ready none))).at d):=λd=>by rw [run_enterLoop_outer (w:=w.at d)];rfl
 have hk':(b.kind == CallKind.early)=false:=oa hk
 have hev:∀x:Item,(b.atR a (x::k)).eval g=.func (.func f) #[] lb:=λx=>by rw [Frame.eval_atR];exact hg
 refine⟨seen P b.fn ((Instr.enterLoop b.fn a.tmps ps assign body none).events P (w.at d) #[]),?_,λe he=>?_⟩
 .rw [gR_range,hro,Sem.runT_eq];simp only [hrun d];have hS:∀(w1:World),(do let d <-resolve (b.atR a (.code (.rangeFunc g ps assign body)::k)).eval { callee:=.value g,args:=#[.const (.func (.yield (w.heap.size+1)) #[] #[])],argTypes:=#[] } 0;invoke d.target d.args:Sem Next)=(do pure ();callFunc f (#[.func (.yield (w.heap.size+1)) #[] #[]]++lb):Sem Next):=λw1=>by
    simp [resolve,Deferred.ofValue,invoke,hev];simp [Frame.eval]
  rw [hS w];have hcf:=hc;unfold zdc at hcf;split at hcf
  .rename_i fn hf;simp only [ka0,kb7] at hcf;obtain⟨h1,h2⟩:=hcf;have h3:fn.body≠none:=by cases hb:fn.body<;>simp_all
   have h1 : fn.name ≠ "runtime.NumGoroutine" := by simpa using h1
   simp [stepG.apply,callFunc,hf,h1,h3,Conc.G,Frame.atR,hk',GStep.after,clD,seen]
  .cases hcf
 .have h1:=zhc (l:=w.heap.size) (P:=P) (w:=w) (ft_enterLoop b.fn a.tmps ps assign body none λl h=>by cases h) (λo ho=>by have:=(kad.1 ho).1;omega) hrun d e (seen_sub he);have hE:(λb=>b=w.heap.size\/w.heap.size<=b)=λb=>w.heap.size<=b:=funext λb=>propext ⟨λh=>by rcases h with h|h<;>omega,.inr⟩;rw [hE] at h1;exact h1
end
end Go.Ab.J
namespace Go.Ab
open Go Go.RowKit Go.Kp
open Go.ConcM (OsLater)
section
variable{G:zbf}{N:Nat}{F0:FB}{s s':AS}{σ σ' σ2:FSt}{a a':Act}{w w' w2:World}{E E':Env}
variable{β:Type}{Jx:List β->(Nat->Prop)->(Nat->Prop)->World->Prop}{out out':List β}{FJ FJ' Gf Gf':Nat->Prop}{wf wf':World}{n:Nat}
theorem FRel.regs(h:FRel G N F0 s σ a w E)(hz:a'.tmps.size=a.tmps.size)(ht:∀t x,zac s (2*t)=some (.av x)->a'.tmps.getD t undef=a.tmps.getD t undef)(hd:a'.defers=[]):FRel G N F0 s σ a' w { E with dfs:=[] }:=by
 have h1:=h.rel.regs hz ht rfl hd;exact⟨h1.at (kac _) (λ_ _=>rfl) rfl rfl rfl (λ_ h=>h) λ_ h=>.inl h,λb hb=>h.avoid b (hb.imp id λx=>x.imp zbu.1 λh=>by cases h),h.bd,h.gs,h.near,h.nearN,h.nle,h.size,λb hb=>let ⟨h1,h2,h3,_,h5⟩:=h.keep b hb;⟨h1,h2,λx=>h3 (zbu.1 x),λh=>(by cases h),h5⟩,λb hb=>(by cases hb),h.immO,h.gbO,h.os,h.out⟩
theorem Frj.regs(h:Frj Jx n F0 s σ w E out FJ Gf wf):Frj Jx n F0 s σ w { E with dfs:=[] } out FJ Gf wf:=⟨h.le,h.j,h.idle,λb hb=>let ⟨h1,h2,h3,h4,h5,_,h7⟩:=h.dis b hb;⟨h1,h2,h3,h4,λx=>h5 (zbu.1 x),λh=>(by cases h),h7⟩⟩
theorem Frj.even(h:Frj Jx n F0 s σ w E out FJ Gf wf)(hs:∀i,zac s' (2*i+1)=zac s (2*i+1)):Frj Jx n F0 s' σ w E out FJ Gf wf:=⟨h.le,h.j,h.idle,λb hb=>let ⟨h1,h2,h3,h4,h5,h6⟩:=h.dis b hb;⟨h1,h2,h3,h4,λ⟨i,hi⟩=>h5 ⟨i,by rwa [hs] at hi⟩,h6⟩⟩
theorem FRel.bump(h:FRel G N F0 s σ a w E):FRel G N F0 s ⟨σ.Gb,w.heap.size⟩ a w E:=⟨h.rel,h.avoid,kac _,h.gs,h.near,h.nearN,h.nle,h.size,h.keep,h.dfsN,h.immO,h.gbO,h.os,h.out⟩
theorem Frj.bump(h:Frj Jx n F0 s σ w E out FJ Gf wf):Frj Jx n F0 s ⟨σ.Gb,w.heap.size⟩ w E out FJ Gf wf:=⟨h.le,h.j,⟨h.idle.size,h.idle.keep,h.idle.gb,kac _,h.idle.gs,h.idle.os,h.idle.out,h.idle.near⟩,h.dis⟩
def snapJ(n:Nat)(w:World)(E:Env)(s:AS)(σ:FSt)(FJ:Nat->Prop):FB:={ snap n w E s σ with fr:=λb=>(snap n w E s σ).fr b/\¬FJ b }
theorem FRel.snapJ(h:FRel G N F0 s σ a w E)(FJ:Nat->Prop):FRel G N (snapJ F0.n w E s σ FJ) s σ a w E:=h.snap.less λ_ h=>h.1
theorem Frj.snapJ(h:Frj Jx n F0 s σ w E out FJ Gf wf):Frj Jx n (snapJ F0.n w E s σ FJ) s σ w E out FJ Gf wf:=⟨h.le,h.j,h.idle,λb hb=>let ⟨h1,_h2,_h3,h4,h5,h6⟩:=h.dis b hb;⟨h1,λhx=>hx.2 hb,λhx=>h4 hx.1,h4,h5,h6⟩⟩
theorem yae(_h:FRel G N F0 s σ a w E)(k:FRel G N (snapJ F0.n w E s σ FJ) s' σ' a' w' E')(kf:Frj Jx n (snapJ F0.n w E s σ FJ) s' σ' w' E' out' FJ' Gf' wf'){b:Nat}(hb:b<w.heap.size)(hh:¬za1 E s b)(hd:b∉E.dfs)(hj:¬FJ b)(hg:¬σ.Gb b) :
  w'.heap[b]?=w.heap[b]?/\¬za1 E' s' b/\b∉E'.dfs/\(¬E.imm b->¬E'.imm b)/\¬FJ' b/\¬σ'.Gb b:=by
 by_cases hi:E.imm b
 .have hI:(Ab.snapJ F0.n w E s σ FJ).imm b:=⟨hi,hd⟩;obtain⟨_,k2,k3,k4,k5⟩:=k.keep b (.inr hI);exact⟨k2,k3,k4,λhn=>absurd hi hn,λhx=>(kf.dis b hx).2.2.1 hI,k5⟩
 .have hf:(Ab.snapJ F0.n w E s σ FJ).fr b:=⟨⟨hb,λhx=>hx.elim hi λhx=>hx.elim hh hd,hg⟩,hj⟩;obtain⟨_,k2,k3,k4,k5⟩:=k.keep b (.inl hf);exact⟨k2,k3,k4,λ_ hx=>k.immO b hx hf,λhx=>(kf.dis b hx).2.1 hf,k5⟩
theorem FRel.backJ(h:FRel G N F0 s σ a w E)(hf:Frj Jx n F0 s σ w E out FJ Gf wf)(k:FRel G N (Ab.snapJ F0.n w E s σ FJ) s' σ' a' w' E')(kf:Frj Jx n (Ab.snapJ F0.n w E s σ FJ) s' σ' w' E' out' FJ' Gf' wf'):FRel G N F0 s' σ' a' w' E'/\Frj Jx n F0 s' σ' w' E' out' FJ' Gf' wf':=by
 have hnj:∀b,F0.fr b\/F0.imm b->¬FJ b:=λb hb hx=>let ⟨_,h2,h3,_⟩:=hf.dis b hx;hb.elim h2 h3;have hk:∀b,F0.fr b\/F0.imm b->b<F0.w.heap.size/\w'.heap[b]?=F0.w.heap[b]?/\¬za1 E' s' b/\b∉E'.dfs/\(¬E.imm b->¬E'.imm b)/\¬FJ' b/\¬σ'.Gb b:=λb hb=>by obtain⟨h1,h2,h3,h4,h5⟩:=h.keep b hb;obtain⟨g1,g2,g3,g4,g5⟩:=yae h k kf (kaf h1 h.size) h3 h4 (hnj b hb) h5;exact⟨h1,g1.trans h2,g2,g3,g4,g5⟩
 refine⟨⟨k.rel,k.avoid,k.bd,k.gs,k.near,k.nearN,h.nle,kak h.size k.size,λb hb=>let ⟨g1,g2,g3,g4,_,_,g7⟩:=hk b hb;⟨g1,g2,g3,g4,g7⟩,k.dfsN,λb hb hx=>(hk b (.inl hx)).2.2.2.2.1 (λhi=>h.immO b hi hx) hb,
  λb=>⟨λhg=>(k.gbO b).1 ((h.gbO b).1 hg),λhl hg=>(h.gbO b).2 hl ((k.gbO b).2 (kaf hl h.size) hg)⟩,h.os.trans k.os,k.out.trans h.out⟩,hf.le,kf.j,kf.idle,λb hb=>?_⟩
 obtain⟨g1,_,_,g4⟩:=kf.dis b hb;exact⟨g1,λhx=>(hk b (.inl hx)).2.2.2.2.2.1 hb,λhx=>(hk b (.inr hx)).2.2.2.2.2.1 hb,g4⟩
end
namespace J
open Go.Kp (FSt jdgF WpR OpsR wpR_seq wpR_block wpR_cond wpR_loop wpR_region opsR_nil opsR_unwanted)
variable{β:Type}{Jx:List β->(Nat->Prop)->(Nat->Prop)->World->Prop}{Post:Value->World->Prop}{n:Nat}
def AWJ(Post:Value->World->Prop)(Jx:List β->(Nat->Prop)->(Nat->Prop)->World->Prop)(n:Nat)(C:Cx)(r:Option Nat)(N:Nat)(c:Code)(Q:Exit->List β->AS->Prop)(out:List β)(s:AS):Prop :=
 ∀(F0:FB) σ E a w FJ Gf wf (fn:FuncId) (Qr:Exit->FSt->Act->World->Prop),FRel C.G N F0 s σ a w E->Frj Jx n F0 s σ w E out FJ Gf wf->
  (∀e out' s' σ' a' w' E' FJ' Gf' wf',Q e out' s'->FRel C.G N F0 s' σ' a' w' E'->Frj Jx n F0 s' σ' w' E' out' FJ' Gf' wf'->zqv c a a'->Qr e σ' a' w')->WpR (jdgF C.P Post) r fn c Qr σ a w
section rules
variable{C:Cx}{r:Option Nat}{N:Nat}{c d:Code}{Q:Exit->List β->AS->Prop}{out:List β}{s:AS}
theorem zoy{Q':Exit->AS->Prop}(h:AW C r N c Q' s)(hq:∀e s',Q' e s'->Q e out s'):AWJ Post Jx n C r N c Q out s:=λF0 σ E a w FJ Gf wf fn Qr hr hf hQ =>
 h Post (snap F0.n w E s σ) σ E a w fn Qr hr.snap λe s' σ' a' w' E' h1 h2 h3=>hQ e out s' σ' a' w' E' FJ Gf wf (hq _ _ h1) (hr.back h2) (hf.run hr h2) h3
theorem ybi{s':AS}(hs:Sub C.G N s s')(h:AWJ Post Jx n C r N c Q out s'):AWJ Post Jx n C r N c Q out s:=λF0 σ E a w FJ Gf wf fn Qr hr hf hQ=>by obtain⟨E',hr'⟩:=hs _ a w E hr.snap.rel;have h2:=hr.snap.sub hr';exact h F0 σ E' a w FJ Gf wf fn Qr (hr.back h2) (hf.run hr h2) hQ
theorem zcq(h:AWJ Post Jx n C r N c (zjf (AWJ Post Jx n C r N d Q) Q) out s):AWJ Post Jx n C r N (.seq c d) Q out s:=λF0 σ E a w FJ Gf wf fn Qr hr hf hQ =>
 wpR_seq (h F0 σ E a w FJ Gf wf fn _ hr hf λe out' s' σ' a' w' E' FJ' Gf' wf' h1 h2 hf2 h3=>by
  have hl:zqv (.seq c d) a a':=λt ht=>h3 t (by simp only [zno,kbp] at ht;exact ht.1);cases e<;>first|exact h1 F0 σ' E' a' w' FJ' Gf' wf' fn Qr h2 hf2 (λe o2 s2 σ2 a2 w2 E2 F2 G2 wf2 g1 g2 gf g3=>hQ e o2 s2 σ2 a2 w2 E2 F2 G2 wf2 g1 g2 gf λt ht=>(g3 t (by simp only [zno,kbp] at ht;exact ht.2)).trans (hl t ht))|exact hQ _ _ s' σ' a' w' E' FJ' Gf' wf' h1 h2 hf2 hl)
theorem zga{x:Operand}{b:Bool}(hx:ev s x=some (.val (.bool b)))(h:AWJ Post Jx n C r N (if b then c else d) Q out s):AWJ Post Jx n C r N (.cond x c d) Q out s:=λF0 σ E a w FJ Gf wf fn Qr hr hf hQ =>
 wpR_cond (hr.rel.ev hx).val_eq (h F0 σ E a w FJ Gf wf fn Qr hr hf λe o' s' σ' a' w' E' FJ' Gf' wf' h1 h2 hf2 h3=>hQ e o' s' σ' a' w' E' FJ' Gf' wf' h1 h2 hf2 λt ht=>h3 t (by simp only [zno,kbp] at ht;cases b;exact ht.2;exact ht.1))
theorem zi8{i:Nat}(h:AWJ Post Jx n C r N c (blockJ i Q) out s):AWJ Post Jx n C r N (.block i c) Q out s:=λF0 σ E a w FJ Gf wf fn Qr hr hf hQ =>
 wpR_block (h F0 σ E a w FJ Gf wf fn _ hr hf λe o' s' σ' a' w' E' FJ' Gf' wf' h1 h2 hf2 h3=>by
  cases e with
  | exit j =>
    simp only [blockJ] at h1;simp only [Go.Kp.blockJ];cases hb:Nat.beq j i with
    | true =>rw [hb] at h1;rw [if_pos (kaj hb)];exact hQ _ _ s' σ' a' w' E' FJ' Gf' wf' h1 h2 hf2 h3
    | false =>rw [hb] at h1;rw [if_neg (λe=>by rw [e] at hb;simp at hb)];exact hQ _ _ s' σ' a' w' E' FJ' Gf' wf' h1 h2 hf2 h3
  | _=>exact hQ _ _ s' σ' a' w' E' FJ' Gf' wf' h1 h2 hf2 h3)
def yca(C:Cx)(f:FuncId)(args:List AV)(r:Value)(l:Nat)(encV:β->Array Value)(xs out out':List β):Prop :=
 zdc C.P f=true/\∀(Post:Value->World->Prop) (Jx:List β->(Nat->Prop)->(Nat->Prop)->World->Prop) (n:Nat) (imm:Nat->Prop) σ w vs FJ Gf wf,zyq C.P Post Jx n l encV xs->zs7 imm σ w->zb3 C.G (zca imm) w->yf1 (zca imm) w args vs->
  n<=w.heap.size->Jx out FJ Gf wf->z8y n FJ Gf wf σ w->(∀b,FJ b->b<wf.heap.size/\¬imm b/\¬σ.Gb b)->
  zo5 C.P Post f vs.toArray σ w λσ' v w'=>v=r/\∃FJ' Gf' wf',Jx out' FJ' Gf' wf'/\z8y n FJ' Gf' wf' σ' w'/\(∀b,FJ' b->b<wf'.heap.size)/\zo4 n FJ σ w FJ' σ' w'
def znk(C:Cx)(N:Nat)(l:Nat)(encV:β->Array Value)(xs:List β)(ops:List Oper)(K:List β->AS->Prop):List Oper->List β->AS->Prop
 | [],out,s=>K out s
 | o::rest,out,s=>(∃R u,zd2 o=true/\zek C N ops.toArray o R s u/\znk C N l encV xs ops K rest out (u++s))\/
    (∃d y ys ts ty pos af g x rest',o=⟨some d,.call { callee:=.value y,args:=ys,argTypes:=ts },ty,pos,af,g⟩/\d<N/\(∀tmps:Array Value,(∀t v,zac s (2*t)=some (.av (.val v))->tmps.getD t undef=v)->Region.wanted o (yielded ops.toArray tmps)=true)/\
      ev s y=some (.val (.func (.yield l) #[] #[]))/\(∃zs,evL s ys.toList=some zs/\∀(E:Env) (w:World) vs,yf1 E w zs vs->vs=(encV x).toList)/\xs=out++x::rest'/\znk C N l encV xs ops K rest (out++[x]) ((2*d,.av (.val (.bool true)))::s))\/
    (∃d y ys ts ty pos af g z f p q zs args r out',o=⟨some d,.call { callee:=.value y,args:=ys,argTypes:=ts },ty,pos,af,g⟩/\d<N/\(∀tmps:Array Value,(∀t v,zac s (2*t)=some (.av (.val v))->tmps.getD t undef=v)->Region.wanted o (yielded ops.toArray tmps)=true)/\
      ev s y=some z/\zba z=some (f,p,q)/\evL s ys.toList=some zs/\(∀(N:Nat) w0 a w E us,Rel C.G N w0 s a w E->yf1 E w (p++zs++q) us->yf1 (zca (zqt E s)) w args us)/\yca C f args r l encV xs out out'/\znk C N l encV xs ops K rest out' ((2*d,.av (.val r))::s))
theorem znk.listJ{l:Nat}{encV:β->Array Value}{xs:List β}(hY:zyq C.P Post Jx n l encV xs){ops:List Oper}{K:List β->AS->Prop}{F0:FB}{fn:FuncId}{Q:Exit->FSt->Act->World->Prop}{a0:Act}
  (hQ:∀out s σ a w E FJ Gf wf,K out s->FRel C.G N F0 s σ a w E->Frj Jx n F0 s σ w E out FJ Gf wf->zqp ops a0 a->Q .normal σ a w):∀{m:List Oper} {k:Nat} {out:List β} {s:AS} {σ:FSt} {a:Act} {w:World} {E:Env} {FJ Gf:Nat->Prop} {wf:World},
  (∀j o,m[j]?=some o->ops[k+j]?=some o)->znk C N l encV xs ops K m out s->FRel C.G N F0 s σ a w E->Frj Jx n F0 s σ w E out FJ Gf wf->zqp ops a0 a->OpsR (jdgF C.P Post) r fn ops.toArray (List.range' k m.length) Q σ a w
 | [],k,out,s,σ,a,w,E,FJ,Gf,wf,hl,h,hr,hf,hoff=>opsR_nil (D:=jdgF C.P Post) (hQ out s σ a w E FJ Gf wf h hr hf hoff)
 | o::m,k,out,s,σ,a,w,E,FJ,Gf,wf,hl,h,hr,hf,hoff=>by
   have ho:ops[k]?=some o:=hl 0 o rfl;have hmem:=kag ho;have hl':∀j o',m[j]?=some o'->ops[k+1+j]?=some o':=λj o' hj=>by have:=hl (j+1) o' (oa hj);rwa [show k+(j+1)=k+1+j by omega] at this
   rw [kbo,List.range'_succ];rcases h with ⟨R,u,hnd,h1,h2⟩|⟨d,y,ys,ts,ty,pos,af,g,x,rest',rfl,hd,hw,hy,⟨zs,hz,henc⟩,hxs,h2⟩|⟨d,y,ys,ts,ty,pos,af,g,z,f,p,q,zs,args,rv,out2,rfl,hd,hw,hy,hc,hz,hconv,hfY,h2⟩
   ·
    exact h1.run hr.snap hnd (oa ho) λσ' v w' E' hr'=>znk.listJ hY hQ hl' h2 (hr.back hr') (hf.run hr hr') (hoff.put hmem v)
   ·
    have hyv:=(hr.rel.ev hy).val_eq;obtain⟨p,q⟩:=hr.rel.evL hz;have hargs:ys.map a.eval=encV x:=by have:=henc E w _ p;rw [<-Array.toArray_toList (xs:=ys.map a.eval),kdx,this,ka9]
    have hYx:=hY out x rest' FJ Gf wf σ w hxs hf.j hf.idle λb hb=>⟨(hf.dis b hb).1,(hf.dis b hb).2.2.2.2.2.2⟩;refine zxw (oa ho) (hw a.tmps λt v ht=>(hr.rel.tmp t _ ht).val_eq) (λc e=>by cases e) hr.bd hr.gs (zyg hyv) (hargs▸hYx) λσ' w' hR=>?_;obtain⟨FJ',hj2,hs2⟩:=hR;obtain⟨hr2,hf2⟩:=Frj.yielded hr hf hj2 hs2
    exact znk.listJ hY hQ hl' h2 (hr2.put (d:=d) hd (x:=.val (.bool true)) (.val _) ox) (hf2.even λi=>by rw [zaa,if_neg oc]) (hoff.put hmem _)
   ·
    obtain⟨h1,h3⟩:=hr.rel.evL hz;obtain⟨us,vs,e1,e2⟩:=zfn (hr.rel.ev hy) hc h1;obtain⟨hok,hfY⟩:=hfY;have:=hfY Post Jx n (zqt E s) σ w _ FJ Gf wf hY hr.aheadT (zoi hr.rel.glb λ_ h=>.inl h) (hconv _ _ _ _ _ _ hr.rel e2) (kak hf.le (kak hr.nle hr.size)) hf.j hf.idle λb hb=>⟨(hf.dis b hb).1,λhx=>hx.elim (hf.dis b hb).2.2.2.1 (hf.dis b hb).2.2.2.2.1,(hf.dis b hb).2.2.2.2.2.2⟩;rw [ka9] at this
    refine zgp (oa ho) (hw a.tmps λt v ht=>(hr.rel.tmp t _ ht).val_eq) (λc e=>by cases e) (λw=>zfl e1 hok) (λw=>zfk e1 hok) this λσ' v w' hb=>?_;obtain⟨rfl,FJ',Gf',wf',g1,g2,g3,g4⟩:=hb;obtain⟨hr2,hf2⟩:=hf.moved hr g1 g2 g3 g4
    exact znk.listJ hY hQ hl' h2 (hr2.put (d:=d) hd (x:=.val v) (.val _) ox) (hf2.even λi=>by rw [zaa,if_neg oc]) (hoff.put hmem _)
theorem zb0{l:Nat}{encV:β->Array Value}{xs:List β}(hY:zyq C.P Post Jx n l encV xs){id:Nat}{m:List Oper}(h:znk C N l encV xs m (Q .normal) m out s):AWJ Post Jx n C r N (.region id m.toArray false) Q out s:=λF0 σ E a w FJ Gf wf fn Qr hr hf hQ =>
 wpR_region (by
  have:=znk.listJ (r:=r) (fn:=fn) (Q:=Qr) hY (λo' s' σ' a' w' E' FJ' Gf' wf' h1 h2 h3 h4=>hQ _ o' s' σ' a' w' E' FJ' Gf' wf' h1 h2 h3 λt ht=>h4 t ht) (k:=0) (λj o hj=>oa hj) h hr hf (zqp.refl _ _);rw [kdi];simpa using this)
end rules
end J
end Go.Ab
namespace Go.Ab
open Go Go.RowKit Go.Kp
open Go.ConcM (OsLater)
section
variable{G:zbf}{N:Nat}{F0:FB}{s s' s2:AS}{σ σ' σ1 σ2:FSt}{a a' a2:Act}{w w' w1 w2:World}{E E' E2:Env}{L D n1:Nat}{ds:List Nat}{o o':Obj}
variable{β:Type}{Jx:List β->(Nat->Prop)->(Nat->Prop)->World->Prop}{out out' out2:List β}{FJ FJ' FJ2 Gf Gf' Gf2:Nat->Prop}{wf wf' wf2:World}{n:Nat}
structure Trn(L:Nat)(E:Env)(s:AS)(FJ:Nat->Prop)(σ:FSt)(w:World)(E':Env)(s':AS)(FJ':Nat->Prop)(σ':FSt)(w':World):Prop where
 size:w.heap.size<=w'.heap.size
 kept:∀b,b<w.heap.size->¬za1 E s b->b∉E.dfs->¬FJ b->¬σ.Gb b->(b≠L->w'.heap[b]?=w.heap[b]?)/\¬za1 E' s' b/\b∉E'.dfs/\(¬E.imm b->¬E'.imm b)/\¬FJ' b/\¬σ'.Gb b
 gb:∀b,(σ.Gb b->σ'.Gb b)/\(b<w.heap.size->σ'.Gb b->σ.Gb b)
 os:OsLater w.os w'.os
 out:w'.output=w.output
theorem Trn.trans(h:Trn L E s FJ σ w E' s' FJ' σ' w')(k:Trn L E' s' FJ' σ' w' E2 s2 FJ2 σ2 w2):Trn L E s FJ σ w E2 s2 FJ2 σ2 w2 :=
 ⟨kak h.size k.size,λb hb h1 h2 h3 h4=>by
   obtain⟨g1,g2,g3,g4,g5,g6⟩:=h.kept b hb h1 h2 h3 h4;obtain⟨k1,k2,k3,k4,k5⟩:=k.kept b (kaf hb h.size) g2 g3 g5 g6;exact⟨λe=>(k1 e).trans (g1 e),k2,k3,λe=>k4 (g4 e),k5⟩,λb=>⟨λhg=>(k.gb b).1 ((h.gb b).1 hg),λhl hg=>(h.gb b).2 hl ((k.gb b).2 (kaf hl h.size) hg)⟩,h.os.trans k.os,k.out.trans h.out⟩
theorem zu7(h:FRel G N F0 s σ a w E)(k:FRel G N (snap F0.n w E s σ) s' σ' a' w' E'):Trn L E s FJ σ w E' s' FJ σ' w' :=
 ⟨k.size,λ_b hb h1 h2 h3 h4=>let ⟨g1,g2,g3,g4,g5⟩:=h.kept k hb h1 h2 h4;⟨λ_=>g1,g2,g3,g4,h3,g5⟩,λb=>k.gbO b,k.os,k.out⟩
theorem zy6(h:FRel G N F0 s σ a w E)(k:FRel G N (snapJ F0.n w E s σ FJ) s' σ' a' w' E')(kf:Frj Jx n (snapJ F0.n w E s σ FJ) s' σ' w' E' out' FJ' Gf' wf'):Trn L E s FJ σ w E' s' FJ' σ' w' :=
 ⟨k.size,λ_b hb h1 h2 h3 h4=>let ⟨g1,g2,g3,g4,g5⟩:=yae h k kf hb h1 h2 h3 h4;⟨λ_=>g1,g2,g3,g4,g5⟩,λb=>k.gbO b,k.os,k.out⟩
theorem zu8:Trn L E s FJ σ w { E with dfs:=[] } s FJ σ w:=⟨kac _,λb hb h1 h2 h3 h4=>⟨λ_=>rfl,λh=>h1 (zbu.1 h),λh=>(by cases h),id,h3,h4⟩,λb=>⟨id,λ_=>id⟩,OsLater.refl _,rfl⟩
theorem zva:Trn L E s FJ σ w E s FJ ⟨σ.Gb,w.heap.size⟩ w:=⟨kac _,λ_b _hb h1 h2 h3 h4=>⟨λ_=>rfl,h1,h2,id,h3,h4⟩,λ_b=>⟨id,λ_=>id⟩,OsLater.refl _,rfl⟩
theorem zu9(hs:∀i,zac s' (2*i+1)=zac s (2*i+1)):Trn L E s FJ σ w E s' FJ σ w:=⟨kac _,λb hb h1 h2 h3 h4=>⟨λ_=>rfl,λ⟨i,hi⟩=>h1 ⟨i,by rwa [hs] at hi⟩,h2,id,h3,h4⟩,λb=>⟨id,λ_=>id⟩,OsLater.refl _,rfl⟩
theorem ztc:Trn L E s FJ σ w E s FJ ⟨σ.Gb,w.heap.size⟩ (w.putObj L o):=⟨by rw [World.putObj_size];exact kac _,λb hb h1 h2 h3 h4=>⟨λe=>World.putObj_heap_other e,h1,h2,id,h3,h4⟩,λb=>⟨id,λ_=>id⟩,OsLater.refl _,rfl⟩
structure AtL(Jx:List β->(Nat->Prop)->(Nat->Prop)->World->Prop)(n:Nat)(G:zbf)(N:Nat)(F0:FB)(L D:Nat)(ds:List Nat)(o:Obj)(s:AS)(out:List β)(σ:FSt)(a:Act)(w:World)(E:Env)(FJ Gf:Nat->Prop)(wf:World):Prop where
 rel:FRel G N F0 s σ a w E
 frj:Frj Jx n F0 s σ w E out FJ Gf wf
 hL:w.heap[L]?=some o
 hD:w.heap[D]?=some (.deferred (some []))
 hds:∀b∈ds,w.heap[b]?=some (.deferred (some []))
 nd:∀b,b=L\/b=D\/b∈ds->¬za1 E s b/\b∉E.dfs/\¬FJ b/\¬σ.Gb b
 own:∀b,b=L\/b=D->¬E.imm b
theorem zbs{w:World}{b:Nat}{o:Obj}(h:w.heap[b]?=some o):b<w.heap.size:=(kad.1 h).1
theorem AtL.next(h:AtL Jx n G N F0 L D ds o s out σ a w E FJ Gf wf)(t:Trn L E s FJ σ w E' s' FJ' σ' w')(hne:D<L/\∀b∈ds,b<D)(hr:FRel G N F0 s' σ' a' w' E')(hf:Frj Jx n F0 s' σ' w' E' out' FJ' Gf' wf')(hL:w'.heap[L]?=some o'):AtL Jx n G N F0 L D ds o' s' out' σ' a' w' E' FJ' Gf' wf':=by
 have hlt:∀b,b=L\/b=D\/b∈ds->b<w.heap.size:=λb hb=>by
  rcases hb with rfl|rfl|hb
  .exact zbs h.hL
  .exact zbs h.hD
  .exact zbs (h.hds b hb)
 have hk:=λb (hb:b=L\/b=D\/b∈ds)=>t.kept b (hlt b hb) (h.nd b hb).1 (h.nd b hb).2.1 (h.nd b hb).2.2.1 (h.nd b hb).2.2.2;refine⟨hr,hf,hL,((hk D (.inr (.inl rfl))).1 oc).trans h.hD,λb hb=>((hk b (.inr (.inr hb))).1 (by have:=hne.2 b hb;omega)).trans (h.hds b hb),λb hb=>?_,λb hb=>(hk b (hb.imp id .inl)).2.2.2.1 (h.own b hb)⟩;obtain⟨_,g2,g3,_,g5,g6⟩:=hk b hb;exact⟨g2,g3,g5,g6⟩
theorem AtL.put(h:AtL Jx n G N F0 L D ds o s out σ a w E FJ Gf wf)(hne:D<L/\∀b∈ds,b<D)(hF:F0.w.heap.size<=L)(ho:Near o'):AtL Jx n G N F0 L D ds o' s out ⟨σ.Gb,w.heap.size⟩ a (w.putObj L o') E FJ Gf wf:=by
 have hr:=h.rel;have hLt:=zbs h.hL;have hcl:∀b,E.imm b\/za1 E s b\/b∈E.dfs->b≠L:=λb hb e=>by subst e;exact hb.elim (h.own b (.inl rfl)) λhb=>hb.elim (h.nd b (.inl rfl)).1 (h.nd b (.inl rfl)).2.1
 have hs:∀b,b≠L->(w.putObj L o').heap[b]?=w.heap[b]?:=λb hb=>World.putObj_heap_other hb;have hz:(w.putObj L o').heap.size=w.heap.size:=World.putObj_size;have hnr:∀b x,(w.putObj L o').heap[b]?=some x->(b=L/\Near x)\/w.heap[b]?=some x:=λb x hx=>by
  by_cases e:b=L
  .subst e;rw [World.putObj_heap_same hLt] at hx;cases hx;exact .inl ⟨rfl,ho⟩
  .rw [hs b e] at hx;exact .inr hx
 have hR:FRel G N F0 s ⟨σ.Gb,w.heap.size⟩ a (w.putObj L o') E :=
  ⟨hr.rel.at (by rw [hz];exact kac _) (λb hb=>hs b (hcl b oz)) rfl rfl rfl (λ_ h=>h) λ_ h=>.inl h,hr.avoid,by rw [hz];exact kac _,λx hx=>by rw [hz];exact hr.gs x hx,
    λb x hb hx=>(hnr b x hx).elim (λh=>h.2) λhx=>hr.near b x hb hx,λb x hb hg hx=>(hnr b x hx).elim (λh=>h.2) λhx=>hr.nearN b x hb hg hx,hr.nle,by rw [hz];exact hr.size,
    λb hb=>let ⟨h1,h2,h3,h4⟩:=hr.keep b hb;⟨h1,(hs b oc).trans h2,h3,h4⟩,hr.dfsN,hr.immO,hr.gbO,hr.os,hr.out⟩
 refine h.next ztc hne hR ⟨h.frj.le,h.frj.j,⟨by rw [hz];exact h.frj.idle.size,λb hb hc hG=>(hs b λe=>?_).trans (h.frj.idle.keep b hb hc hG),h.frj.idle.gb,by rw [hz];exact kac _,λx hx=>by rw [hz];exact hr.gs x hx,h.frj.idle.os,h.frj.idle.out,λb x hb hg hx=>(hnr b x hx).elim (λh=>h.2) λhx=>h.frj.idle.near b x hb hg hx⟩,h.frj.dis⟩ (World.putObj_heap_same hLt);rcases hc with hc|hc
 .have:=hr.nle;have:=h.frj.le;omega
 .exact(h.nd L (.inl rfl)).2.2.1 (e▸hc)
theorem AtL.regs(h:AtL Jx n G N F0 L D ds o s out σ a w E FJ Gf wf)(hne:D<L/\∀b∈ds,b<D)(hz:a'.tmps.size=a.tmps.size)(ht:∀t x,zac s (2*t)=some (.av x)->a'.tmps.getD t undef=a.tmps.getD t undef)(hd:a'.defers=[]):AtL Jx n G N F0 L D ds o s out σ a' w { E with dfs:=[] } FJ Gf wf :=
 h.next zu8 hne (h.rel.regs hz ht hd) h.frj.regs h.hL
def Fx(L D n1:Nat)(E:Env)(s:AS)(FJ:Nat->Prop)(b:Nat):Prop:=b=L\/b=D\/za1 E s b\/FJ b\/(E.imm b/\n1<=b)
theorem AtL.idle(h:AtL Jx n G N F0 L D ds o s out σ a w E FJ Gf wf)(hd:E.dfs=[])(hi:z8y n1 (Fx L D n1 E s FJ) σ.Gb w σ1 w1)(hF:F0.w.heap.size<=n1)(hz:n1<=w.heap.size)(hds:∀b∈ds,b<n1):AtL Jx n G N F0 L D ds o s out σ1 a w1 E FJ Gf wf:=by
 have hr:=h.rel;have hn:F0.n<=n1:=kak hr.nle hF;have hu:∀b,b<w.heap.size->b<n1\/Fx L D n1 E s FJ b->¬σ.Gb b->w1.heap[b]?=w.heap[b]?:=hi.keep;have hcl:∀b,E.imm b\/za1 E s b\/b∈E.dfs->w1.heap[b]?=w.heap[b]?:=λb hb=>by
  refine hu b (hr.lt hb) ?_ (hr.avoid b hb);rcases hb with hb|hb|hb
  .rcases kae b n1 with h1|h1
   .exact .inl h1
   .exact .inr (.inr (.inr (.inr (.inr ⟨hb,h1⟩))))
  .exact .inr (.inr (.inr (.inl hb)))
  .rw [hd] at hb;cases hb
 have hjs:∀b,FJ b->b<wf.heap.size->w1.heap[b]?=w.heap[b]?:=λb hb hl=>hu b (kaf hl h.frj.idle.size) (.inr (.inr (.inr (.inr (.inl hb))))) (h.frj.dis b hb).2.2.2.2.2.2;have hle:=h.frj.le;have hnr:∀b x,n<=b->¬σ1.Gb b->w1.heap[b]?=some x->Near x:=λb x hb hg hx=>by
  rcases kae b n1 with h1|h1
  .have hg3:¬σ.Gb b:=λhg2=>hg ((hi.gb b).1 hg2);exact h.frj.idle.near b x hb hg3 ((hu b (kaf h1 hz) (.inl h1) hg3).symm.trans hx)
  .exact hi.near b x h1 hg hx
 refine⟨⟨hr.rel.at hi.size (λb hb=>hcl b oz) rfl rfl rfl (λ_ h=>h) λ_ h=>.inl h,λb hb hg=>hr.avoid b hb ((hi.gb b).2 (hr.lt hb) hg),hi.bd,hi.gs,λb x hb hx=>hr.near b x hb ((hcl b (.inl hb)).symm.trans hx),λb x hb=>hnr b x (kak hle hb),hr.nle,kak hr.size hi.size,
  λb hb=>let ⟨h1,h2,h3,h4,h5⟩:=hr.keep b hb;⟨h1,(hu b (kaf h1 hr.size) (.inl (kaf h1 hF)) h5).trans h2,h3,h4,λhg=>h5 ((hi.gb b).2 (kaf h1 hr.size) hg)⟩,hr.dfsN,hr.immO,λb=>⟨λhg=>(hi.gb b).1 ((hr.gbO b).1 hg),λhl hg=>(hr.gbO b).2 hl ((hi.gb b).2 (kaf hl hr.size) hg)⟩,hr.os.trans hi.os,hi.out.trans hr.out⟩,
  ⟨h.frj.le,h.frj.j,⟨kak h.frj.idle.size hi.size,λb hb hc hG=>?_,λb=>⟨λhg=>(hi.gb b).1 ((h.frj.idle.gb b).1 hg),λhl hg=>(h.frj.idle.gb b).2 hl ((hi.gb b).2 (kaf hl h.frj.idle.size) hg)⟩,hi.bd,hi.gs,h.frj.idle.os.trans hi.os,hi.out.trans h.frj.idle.out,hnr⟩,λb hb=>let ⟨h1,h2,h3,h4,h5,h6,h7⟩:=h.frj.dis b hb;⟨h1,h2,h3,h4,h5,h6,λhg=>h7 ((hi.gb b).2 (kaf h1 h.frj.idle.size) hg)⟩⟩,
  (hu L (zbs h.hL) (.inr (.inl rfl)) (h.nd L (.inl rfl)).2.2.2).trans h.hL,(hu D (zbs h.hD) (.inr (.inr (.inl rfl))) (h.nd D (.inr (.inl rfl))).2.2.2).trans h.hD,λb hb=>(hu b (zbs (h.hds b hb)) (.inl (hds b hb)) (h.nd b (.inr (.inr hb))).2.2.2).trans (h.hds b hb),λb hb=>?_,h.own⟩
 .refine Eq.trans ?_ (h.frj.idle.keep b hb hc hG);rcases hc with hc|hc
  .exact hu b (kaf hb h.frj.idle.size) (.inl oc) λhg=>hG ((h.frj.idle.gb b).2 hb hg)
  .exact hjs b hc hb
 .obtain⟨g1,g2,g3,g4⟩:=h.nd b hb;have hlt:b<w.heap.size:=by
    rcases hb with rfl|rfl|hb
    .exact zbs h.hL
    .exact zbs h.hD
    .exact zbs (h.hds b hb)
  exact⟨g1,g2,g3,λhg=>g4 ((hi.gb b).2 hlt hg)⟩
theorem ydb(h:AtL Jx n G N F0 L D ds o s out σ a w E FJ Gf wf)(k:AtL Jx n G N F0 L D ds o' s2 out2 σ2 a2 w2 E2 FJ2 Gf2 wf2)(hd:E.dfs=[])(t:Trn L E s FJ σ w E2 s2 FJ2 σ2 w2)(hn:F0.n<=n1):zo4 n1 (Fx L D n1 E s FJ) σ w (Fx L D n1 E2 s2 FJ2) σ2 w2:=by
 have hnd:∀b,b∉E.dfs:=λb hb=>by rw [hd] at hb;cases hb
 refine⟨t.size,λb hb hx hG=>(t.kept b hb (λh=>hx (.inr (.inr (.inl h)))) (hnd b) (λh=>hx (.inr (.inr (.inr (.inl h))))) hG).1 λh=>hx (.inl h),λb hb=>?_,t.gb,k.rel.bd,k.rel.gs,t.os,t.out,λb x hb _ hg hx=>k.rel.nearN b x (kak hn hb) hg hx⟩;have hng:∀b,Fx L D n1 E2 s2 FJ2 b->¬σ2.Gb b:=λb hb=>by
  rcases hb with rfl|rfl|hb|hb|hb
  .exact(k.nd _ (.inl rfl)).2.2.2
  .exact(k.nd _ (.inr (.inl rfl))).2.2.2
  .exact k.rel.avoid b (.inr (.inl hb))
  .exact(k.frj.dis b hb).2.2.2.2.2.2
  .exact k.rel.avoid b (.inl hb.1)
 have hg1:b<w.heap.size->¬σ.Gb b:=λhl hg=>hng b hb ((t.gb b).1 hg);have hcase:(¬za1 E s b->¬FJ b->b<w.heap.size->Fx L D n1 E s FJ b)->Fx L D n1 E s FJ b\/w.heap.size<=b:=λhh=>by
  rcases kae b w.heap.size with hl|hl
  .by_cases h1:za1 E s b
   .exact .inl (.inr (.inr (.inl h1)))
   .by_cases h2:FJ b
    .exact .inl (.inr (.inr (.inr (.inl h2))))
    .exact .inl (hh h1 h2 hl)
  .exact .inr hl
 refine and_assoc.1 ⟨?_,hng b hb⟩;rcases hb with rfl|rfl|hb|hb|hb
 .exact⟨.inl (.inl rfl),zbs k.hL⟩
 .exact⟨.inl (.inr (.inl rfl)),zbs k.hD⟩
 .exact⟨hcase λh1 h2 hl=>absurd hb (t.kept b hl h1 (hnd b) h2 (hg1 hl)).2.1,k.rel.lt (.inr (.inl hb))⟩
 .exact⟨hcase λh1 h2 hl=>absurd hb (t.kept b hl h1 (hnd b) h2 (hg1 hl)).2.2.2.2.1,kaf (k.frj.dis b hb).1 k.frj.idle.size⟩
 .refine⟨hcase λh1 h2 hl=>.inr (.inr (.inr (.inr ⟨Classical.not_not.1 λhi=>(t.kept b hl h1 (hnd b) h2 (hg1 hl)).2.2.2.1 hi hb.1,hb.2⟩))),k.rel.lt (.inl hb.1)⟩
end
end Go.Ab
namespace Go.Ab.J
open Go Go.RowKit
open Go.Kp (FSt jdgF WpR AfterR Near)
open Go.Conc (base)
section
variable{β:Type}{Jx:List β->(Nat->Prop)->(Nat->Prop)->World->Prop}{Post:Value->World->Prop}{n:Nat}
section
variable{C:Cx}{N:Nat}{s:AS}
theorem zss{α:Type}{g:Operand}{ps:Array Tmp}{assign body:Code}{Q:Exit->List β->AS->Prop}{z:AV}{f:FuncId}{cap:List AV}{encV:α->Array Value}(encA:α->List AV){xs:List α}(T:AS)(M:List α->AS)(O:List α->List β)
  (h0:Sub C.G N s (T++M [])) (hx:ev (T++M []) g=some z) (hc:zba z=some (f,[],cap)) (hcl:zbb cap=[]) (hg:zs6 C f cap encV xs)
  (hlen:∀x,(encA x).length=ps.size) (henc:∀x (E:Env) (w:World),yf1 E w (encA x) (encV x).toList) (hid:∀x,zbb (encA x)=[]) (hps:∀p∈ps.toList,p<N) (hM:∀pre t,zac (M pre) (2*t)=none)
  (hT:∀t,zac T (2*t)≠none->zno assign t=false/\zno body t=false/\t∉ps.toList)
  (hbody:∀(l:Nat) (pre:List α) (x:α) (rest:List α),xs=pre++x::rest->AW C (some l) N assign (λe s1=>e=.normal/\∀l,AWJ Post Jx n C (some l) N body (λe out s2=>e=.normal/\out=O (pre++[x])/\Sub C.G N s2 (T++M (pre++[x]))) (O pre) s1) (ztv ps.toList (encA x) (T++M pre)))
  (hdone:Q .normal (O xs) (T++M xs)):AWJ Post Jx n C none N (.rangeFunc g ps assign body) Q (O []) s:=λF0 σ E a w FJ Gf wf fn Qr hr hf hQ=>by
 obtain⟨E0,hr0'⟩:=h0 _ a w E hr.snap.rel
 have hr0:FRel C.G N F0 (T++M []) σ a w E0:=hr.back (hr.snap.sub hr0')
 have hf0:Frj Jx n F0 (T++M []) σ w E0 (O []) FJ Gf wf:=hf.run hr (hr.snap.sub hr0')
 obtain⟨us,vs,e1,e2,e3⟩:=zj4 (hr0.rel.ev hx) hc
 have hus:us=#[]:=by have:=e2.1;simp at this;exact Array.eq_empty_of_size_eq_zero oc
 subst hus
 obtain⟨hok,hgv⟩:=hg
 intro b k cs hb hk hro hcc
 obtain⟨W1,hW1⟩:∃W1,W1=(w.alloc (.deferred (some []))).alloc (.loop (zrj b.fn a ps assign body w.heap.size .ready none)):=⟨_,rfl⟩
 have hz1:W1.heap.size=w.heap.size+2:=by rw [hW1];simp
 have hb1:Below w.heap.size w W1:=by rw [hW1];exact((Below.refl _ w).alloc (kac _) _).alloc od _
 have hL1:W1.heap[w.heap.size+1]?=some (.loop (zrj b.fn a ps assign body w.heap.size .ready none)):=by rw [hW1];have:=World.alloc_heap_new (w.alloc (.deferred (some []))) (.loop (zrj b.fn a ps assign body w.heap.size .ready none));rwa [World.size_alloc] at this
 have hD1:W1.heap[w.heap.size]?=some (.deferred (some [])):=by rw [hW1];exact(Below.heap_alloc _ _ _ od).trans (World.alloc_heap_new w _)
 have hne:w.heap.size<w.heap.size+1/\∀x∈E0.dfs,x<w.heap.size:=⟨oc,λx hx=>hr0.lt (.inr (.inr hx))⟩
 have hFn:F0.w.heap.size<=w.heap.size:=hr0.size
 have hbel:∀x,E0.imm x\/za1 E0 (T++M []) x\/x∈E0.dfs->W1.heap[x]?=w.heap[x]?:=λx hx=>hb1.block x (hr0.lt hx)
 have hgsl:∀x,w.heap.size<=x->¬σ.Gb x:=λx hx hg=>by have:=hr0.gs x hg;omega
 have hnr1:∀x y,F0.n<=x->¬σ.Gb x->W1.heap[x]?=some y->Near y:=λx y hx hg hy=>by
  rcases kae x w.heap.size with h1|h1
  .exact hr0.nearN x y hx hg ((hb1.block x h1).symm.trans hy)
  .rcases kae w.heap.size x with h2|h2
   .have h3:=zbs hy;have h4:x=w.heap.size+1:=oc
    rw [h4,hL1] at hy;cases hy;trivial
   .have h4:x=w.heap.size:=oc
    rw [h4,hD1] at hy;cases hy;trivial
 have hnr2:∀x y,n<=x->¬σ.Gb x->W1.heap[x]?=some y->Near y:=λx y hx hg hy=>by
  rcases kae x w.heap.size with h1|h1
  .exact hf0.idle.near x y hx hg ((hb1.block x h1).symm.trans hy)
  .exact hnr1 x y (kak (kak hr0.nle hr0.size) h1) hg hy
 have hRW:FRel C.G N F0 (T++M []) ⟨σ.Gb,w.heap.size+2⟩ a W1 E0 :=
  ⟨hr0.rel.at hb1.size (λx hx=>hbel x (by rcases hx with h|h|h;exact .inr (.inl h);exact .inl h;exact .inr (.inr h))) rfl rfl rfl (λ_ h=>h) λ_ h=>.inl h,hr0.avoid,by rw [hz1];exact kac _,λx hx=>by have:=hr0.gs x hx;omega,λx y hx hy=>hr0.near x y hx ((hbel x (.inl hx)).symm.trans hy),hnr1,hr0.nle,kak hr0.size hb1.size,
    λx hx=>let ⟨h1,h2,h3,h4⟩:=hr0.keep x hx;⟨h1,(hb1.block x (kaf h1 hr0.size)).trans h2,h3,h4⟩,hr0.dfsN,hr0.immO,λx=>⟨(hr0.gbO x).1,λh1 h2=>(hr0.gbO x).2 h1 h2⟩,by rw [hW1];exact hr0.os,by rw [hW1];exact hr0.out⟩
 have hfW:Frj Jx n F0 (T++M []) ⟨σ.Gb,w.heap.size+2⟩ W1 E0 (O []) FJ Gf wf :=
  ⟨hf0.le,hf0.j,⟨kak hf0.idle.size hb1.size,λx hx hc hG=>(hb1.block x (kaf hx hf0.idle.size)).trans (hf0.idle.keep x hx hc hG),hf0.idle.gb,by rw [hz1];exact kac _,λx hx=>by have:=hr0.gs x hx;omega,by rw [hW1];exact hf0.idle.os,by rw [hW1];exact hf0.idle.out,hnr2⟩,hf0.dis⟩
 have hA1:AtL Jx n C.G N F0 (w.heap.size+1) w.heap.size E0.dfs (.loop (zrj b.fn a ps assign body w.heap.size .ready none)) (T++M []) (O []) ⟨σ.Gb,w.heap.size+2⟩ { a with defers:=[] } W1 { E0 with dfs:=[] } FJ Gf wf:=by
  refine⟨hRW.regs rfl (λ_ _ _=>rfl) rfl,hfW.regs,hL1,hD1,λx hx=>(hbel x (.inr (.inr hx))).trans (hr0.rel.dfo.2 x hx).2,λx hx=>?_,λx hx hi=>?_⟩
  .rcases hx with rfl|rfl|hx
   .exact⟨λh=>by have:=hr0.lt (.inr (.inl (zbu.1 h)));omega,λh=>(by cases h),λh=>by have:=(hf0.dis _ h).1;have:=hf0.idle.size;omega,hgsl _ oc⟩
   .exact⟨λh=>by have:=hr0.lt (.inr (.inl (zbu.1 h)));omega,λh=>(by cases h),λh=>by have:=(hf0.dis _ h).1;have:=hf0.idle.size;omega,hgsl _ (kac _)⟩
   .exact⟨λh=>by
    obtain⟨i,hi⟩:=zbu.1 h;exact hr0.rel.held hi (hr0.rel.dfo.2 x hx).2,λh=>(by cases h),λh=>(hf0.dis x h).2.2.2.2.2.1 hx,hr0.avoid x (.inr (.inr hx))⟩
  .have:=hr0.lt (.inl hi);rcases hx with rfl|rfl<;>omega
 refine yb8 hro hk hr0.bd hr0.gs e1 hok ?_
 rw [<-hW1]
 have hcall:=hgv Post E0.imm ⟨σ.Gb,w.heap.size+2⟩ W1 vs.toList (w.heap.size+1) (Fx (w.heap.size+1) w.heap.size W1.heap.size { E0 with dfs:=[] } (T++M []) FJ)
  (λpre fr Gx wx=>∃E' σ' FJo Gfo wfo,σ'.Gb=Gx/\E'.dfs=[]/\W1.heap.size<=wx.heap.size/\AtL Jx n C.G N F0 (w.heap.size+1) w.heap.size E0.dfs (.loop (zrj b.fn a ps assign body w.heap.size .ready none)) (T++M pre) (O pre) σ' { a with defers:=[] } wx E' FJo Gfo wfo/\fr=Fx (w.heap.size+1) w.heap.size W1.heap.size E' (T++M pre) FJo)
  hRW.ahead (zoi hRW.rel.glb λ_ h=>h) (yf1.step (E:=E0) (E':=zca E0.imm) (λ_ h=>h) (λx hx o v hv=>by rw [World.cell?_of_block (w:=w) (a:=⟨x,o,none⟩) (hbel x (.inl hx))];exact hv) e3 (by rw [hcl];simp)) ?_ ⟨_,_,_,_,_,rfl,rfl,kac _,hA1,rfl⟩ ?_
 .rw [ka9] at hcall;refine hcall (b.atR { a with defers:=clD w.heap.size::a.defers } (.inRangeFunc (w.heap.size+1)::k)) cs (λ_=>rfl) λσ' v w' hR=>?_;obtain⟨fr,Gx,wx,⟨E',σx,FJo,Gfo,wfo,rfl,hd',hzx,hA,rfl⟩,hidle⟩:=hR;have hA2:=hA.idle hd' hidle oc hzx λx hx=>by have:=hne.2 x hx;omega
  show(jdgF C.P Post).J σ' (Conc.G (b.atR { a with defers:=clD w.heap.size::a.defers } (.endRangeFunc (w.heap.size+1)::k)) cs) w';refine z3u (hA2.nd _ (.inl rfl)).2.2.2 hA2.rel.bd hA2.rel.gs hA2.hL (by intro h;cases h) rfl ?_;have hA3:=hA2.put (o':=.loop { zrj b.fn a ps assign body w.heap.size .ready none with state:=.exhausted }) hne oc trivial
  refine hcc .normal _ _ _ (hQ .normal (O xs) (T++M xs) _ { a with defers:=clD w.heap.size::a.defers } _ { E' with dfs:=w.heap.size::E0.dfs } FJo Gfo wfo hdone ?_ ?_ λt _=>rfl)
  .have h3:=hA3.rel;have hdd:∀x∈w.heap.size::E0.dfs,x=w.heap.size+1\/x=w.heap.size\/x∈E0.dfs:=λx hx=>.inr (oa hx);have hat:∀x∈w.heap.size::E0.dfs,(w'.putObj (w.heap.size+1) (.loop { zrj b.fn a ps assign body w.heap.size .ready none with state:=.exhausted })).heap[x]?=some (.deferred (some [])):=λx hx=>by
     rcases kat.1 hx with rfl|hx
     .exact hA3.hD
     .exact hA3.hds x hx
   have hrel:=h3.rel.move (a':={ a with defers:=clD w.heap.size::a.defers }) (E':={ E' with dfs:=w.heap.size::E0.dfs }) (w0':=reb F0.n (w'.putObj (w.heap.size+1) (.loop { zrj b.fn a ps assign body w.heap.size .ready none with state:=.exhausted })) { E' with dfs:=w.heap.size::E0.dfs } (T++M xs)) rfl (by rw [hr0.rel.df];rfl)
    ⟨List.nodup_cons.2 ⟨λh=>by have:=hne.2 _ h;omega,hr0.rel.dfo.1⟩,λx hx=>⟨λ_=>.inr hx,hat x hx⟩⟩ rfl (λ_ h=>h) (zdy.refl E' _) (λ_ _=>⟨rfl,rfl⟩) (λi x hx=>⟨rfl,(h3.rel.new i x hx).2.1,(h3.rel.new i x hx).1.1,λ_=>⟨.inl (zbu.2 ⟨i,hx⟩),.inr (zbu.2 ⟨i,hx⟩)⟩⟩) h3.rel.imm (kac _)
    ⟨Below.refl _ _,λ_ _ _=>rfl,kak h3.nle h3.size⟩ λx hx _=>.inl hx
   refine⟨hrel,λx hx=>?_,h3.bd,h3.gs,h3.near,h3.nearN,h3.nle,h3.size,λx hx=>?_,λx hx=>?_,h3.immO,h3.gbO,h3.os,h3.out⟩
   .rcases hx with hx|hx|hx
    .exact h3.avoid x (.inl hx)
    .exact h3.avoid x (.inr (.inl (zbu.1 hx)))
    .exact(hA3.nd x (hdd x hx)).2.2.2
   .obtain⟨g1,g2,g3,_,g5⟩:=h3.keep x hx;refine⟨g1,g2,λh=>g3 (zbu.1 h),λh=>?_,g5⟩;rcases kat.1 h with rfl|h
    .omega
    .exact(hr0.keep x hx).2.2.2.1 h
   .rcases kat.1 hx with rfl|hx
    .exact kak hr0.nle hr0.size
    .exact hr0.dfsN x hx
  .refine⟨hA3.frj.le,hA3.frj.j,hA3.frj.idle,λx hx=>?_⟩;obtain⟨g1,g2,g3,g4,g5,_,g7⟩:=hA3.frj.dis x hx;refine⟨g1,g2,g3,g4,λh=>g5 (zbu.1 h),λh=>?_,g7⟩;exact(hA3.nd x (.inr (oa h))).2.2.1 hx
 ·
  intro x hx;rcases hx with rfl|rfl|hx|hx|hx
  .exact⟨oc,λhi=>by have:=hr0.lt (.inl hi);omega,hgsl _ oc⟩
  .exact⟨oc,λhi=>by have:=hr0.lt (.inl hi);omega,hgsl _ oc⟩
  .obtain⟨i,hi⟩:=zbu.1 hx;exact⟨by have:=(hr0.rel.new i x hi).2.2;omega,(hr0.rel.new i x hi).2.1,hr0.avoid x (.inr (.inl ⟨i,hi⟩))⟩
  .exact⟨by have:=(hf0.dis x hx).1;have:=hf0.idle.size;omega,(hf0.dis x hx).2.2.2.1,(hf0.dis x hx).2.2.2.2.2.2⟩
  .have:=hr0.lt (.inl hx.1);omega
 ·
  rintro pre x rest fr Gx wx σ1 w1 hxs ⟨E',σx,FJo,Gfo,wfo,rfl,hd',hzx,hA,rfl⟩ hidle hlt;have hA2:=hA.idle hd' hidle oc hzx λx hx=>by have:=hne.2 x hx;omega
  have hz2:W1.heap.size<=w1.heap.size:=kak hzx hidle.size;have hsz:(encV x).size=ps.size:=by have:=(henc x E w).1;rw [hlen x] at this;simpa using this.symm
  refine⟨(hA2.nd _ (.inl rfl)).2.2.2,zbs hA2.hL,λo ho=>by rw [hA2.hL] at ho;cases ho;trivial,b.fn,_,assign,body,λd=>run_yield (w:=w1.at d) hA2.hL hsz,λc cs hm hJ=>?_⟩;obtain⟨tm,htm⟩:∃tm,tm=(ps.zip (encV x)).foldl (λt (p,v)=>t.setIfInBounds p v) a.tmps:=⟨_,rfl⟩
  show(jdgF C.P Post).J ⟨σ1.Gb,w1.heap.size⟩ (Conc.G (Frame.round (w.heap.size+1) b.fn ((ps.zip (encV x)).foldl (λt (p,v)=>t.setIfInBounds p v) a.tmps) assign body .normal) (c::cs)) w1;have he:tm=(ps.toList.zip (encV x).toList).foldl (λt (p,v)=>t.setIfInBounds p v) a.tmps:=by rw [htm,<-Array.foldl_toList,Array.toList_zip]
  rw [<-htm];obtain⟨rb,hrb⟩:∃rb:Frame,rb={ fn:=b.fn,tmps:=#[],todo:=[],defers:=[],mode:=.run,kind:=.normal,roundOf:=some (w.heap.size+1) }:=⟨_,rfl⟩;have hrb1:Frame.round (w.heap.size+1) b.fn tm assign body .normal=rb.atR { tmps:=tm,defers:=[] } [.code assign,.beginRound,.code body]:=by rw [hrb];rfl
  have hro2:rb.roundOf=some (w.heap.size+1):=by rw [hrb]
  have hkn:rb.kind=.normal:=by rw [hrb]
  have hke:rb.kind≠.early:=by rw [hrb];simp
  rw [hrb1];have hpar:=zvr (ps:=ps.toList) hA2.rel.rel (by rw [hlen x];simp) hps (henc x E' w1) (hid x);rw [<-he] at hpar;have hev0:∀i,zac (ztv ps.toList (encA x) (T++M pre)) (2*i+1)=zac (T++M pre) (2*i+1):=λi=>zis;have hh0:∀y,za1 E' (ztv ps.toList (encA x) (T++M pre)) y↔za1 E' (T++M pre) y:=λy=>by simp only [za1,hev0]
  have hrP:FRel C.G N F0 (ztv ps.toList (encA x) (T++M pre)) σ1 { tmps:=tm,defers:=[] } w1 E' :=
   ⟨hpar.at (kac _) (λ_ _=>rfl) rfl rfl rfl (λ_ h=>h) λ_ h=>.inl h,λy hy=>hA2.rel.avoid y (hy.imp id λh=>h.imp (hh0 y).1 id),hA2.rel.bd,hA2.rel.gs,hA2.rel.near,hA2.rel.nearN,hA2.rel.nle,hA2.rel.size,λy hy=>let ⟨g1,g2,g3,g4⟩:=hA2.rel.keep y hy;⟨g1,g2,λh=>g3 ((hh0 y).1 h),g4⟩,hA2.rel.dfsN,hA2.rel.immO,hA2.rel.gbO,hA2.rel.os,hA2.rel.out⟩
  have hA4:=((hA2.next (zu9 hev0) hne hrP (hA2.frj.even hev0) hA2.hL).next zva hne hrP.bump (hA2.frj.even hev0).bump hA2.hL);have t4:Trn (w.heap.size+1) E' (T++M pre) FJo σ1 w1 E' (ztv ps.toList (encA x) (T++M pre)) FJo ⟨σ1.Gb,w1.heap.size⟩ w1:=(zu9 hev0).trans zva;have hTa:∀t,zac T (2*t)≠none->tm.getD t undef=a.tmps.getD t undef:=λt ht=>by rw [he];exact zrp (hT t ht).2.2
  refine hbody (w.heap.size+1) pre x rest hxs Post _ _ E' { tmps:=tm,defers:=[] } w1 b.fn (λe σ' a' w'=>e=.normal/\(jdgF C.P Post).J σ' (Conc.G (rb.atR a' [.beginRound,.code body]) (c::cs)) w') hA4.rel.snap ?_ rb [.beginRound,.code body] (c::cs) (by rw [hrb]) hke hro2 λe s' a' w' q=>?_
  rotate_left
  .obtain⟨rfl,q⟩:=q;exact q
  rintro e s1 σ5 a5 w5 E5 ⟨rfl,hb5⟩ hrel5 hsame5;refine⟨rfl,?_⟩;have t5:Trn (w.heap.size+1) E' (ztv ps.toList (encA x) (T++M pre)) FJo ⟨σ1.Gb,w1.heap.size⟩ w1 E5 s1 FJo σ5 w5:=zu7 hA4.rel hrel5
  have hL5:w5.heap[w.heap.size+1]?=some (.loop (zrj b.fn a ps assign body w.heap.size .ready none)):=(hA4.rel.kept hrel5 (zbs hA4.hL) (hA4.nd _ (.inl rfl)).1 (hA4.nd _ (.inl rfl)).2.1 (hA4.nd _ (.inl rfl)).2.2.2).1.trans hA4.hL;have hA5:=hA4.next t5 hne (hA4.rel.back hrel5) (hA4.frj.run hA4.rel hrel5) hL5;refine yb9 hro2 hke (hA5.nd _ (.inl rfl)).2.2.2 hA5.rel.bd hA5.rel.gs hA5.hL rfl ?_
  have hA6:=hA5.put (o':=.loop { zrj b.fn a ps assign body w.heap.size .ready none with state:=.busy }) hne oc trivial;have t6:Trn (w.heap.size+1) E5 s1 FJo σ5 w5 E5 s1 FJo ⟨σ5.Gb,w5.heap.size⟩ (w5.putObj (w.heap.size+1) (.loop { zrj b.fn a ps assign body w.heap.size .ready none with state:=.busy })):=ztc
  refine hb5 (w.heap.size+1) (snapJ F0.n _ E5 s1 _ FJo) _ E5 a5 _ FJo Gfo wfo b.fn (λe σ' a' w'=>e=.normal/\(jdgF C.P Post).J σ' (Conc.G (rb.atR a' []) (c::cs)) w') (hA6.rel.snapJ FJo) hA6.frj.snapJ ?_ rb [] (c::cs) (by rw [hrb]) hke hro2 λe s' a' w' q=>?_
  rotate_left
  .obtain⟨rfl,q⟩:=q;exact q
  rintro e out7 s7 σ7 a7 w7 E7 FJ7 Gf7 wf7 ⟨rfl,rfl,hsub⟩ hrel7 hfrj7 hsame7;refine⟨rfl,?_⟩;obtain⟨hr7,hf7⟩:=hA6.rel.backJ hA6.frj hrel7 hfrj7;have t7:=zy6 (L:=w.heap.size+1) hA6.rel hrel7 hfrj7;have hn7:=hA6.nd _ (.inl rfl);have hL7:=(yae hA6.rel hrel7 hfrj7 (zbs hA6.hL) hn7.1 hn7.2.1 hn7.2.2.1 hn7.2.2.2).1.trans hA6.hL;have hA7:=hA6.next t7 hne hr7 hf7 hL7
  obtain⟨E8,h8⟩:=hsub _ a7 w7 E7 hA7.rel.snap.rel;have hS8:=hA7.rel.snap.sub h8;have t8:Trn (w.heap.size+1) E7 s7 FJ7 σ7 w7 E8 (T++M (pre++[x])) FJ7 σ7 w7:=zu7 hA7.rel hS8;have hA8:=hA7.next t8 hne (hA7.rel.back hS8) (hA7.frj.run hA7.rel hS8) hA7.hL;have hA9:=hA8.regs (a':={ a with defers:=[] }) hne (by rw [hA8.rel.rel.sz];exact hr0.rel.sz) (λt y hy=>by
   have ht:zac T (2*t)≠none:=λh0=>by rw [zbz,h0,hM] at hy;cases hy
   exact((hsame7 t (hT t ht).2.1).trans ((hsame5 t (hT t ht).1).trans (hTa t ht))).symm) rfl
  have t9:Trn (w.heap.size+1) E8 (T++M (pre++[x])) FJ7 σ7 w7 { E8 with dfs:=[] } (T++M (pre++[x])) FJ7 σ7 w7:=zu8;refine zyo (c:=c) hro2 hkn (hA9.nd _ (.inl rfl)).2.2.2 hA9.rel.bd hA9.rel.gs hA9.hL (hm _) ?_;have hA10:=hA9.put (o':=.loop { zrj b.fn a ps assign body w.heap.size .busy none with state:=.ready,pending:=none }) hne oc trivial
  have t10:Trn (w.heap.size+1) { E8 with dfs:=[] } (T++M (pre++[x])) FJ7 σ7 w7 { E8 with dfs:=[] } (T++M (pre++[x])) FJ7 ⟨σ7.Gb,w7.heap.size⟩ (w7.putObj (w.heap.size+1) (.loop { zrj b.fn a ps assign body w.heap.size .busy none with state:=.ready,pending:=none })):=ztc;have tt:=t4.trans (t5.trans (t6.trans (t7.trans (t8.trans (t9.trans t10)))))
  exact hJ _ _ ⟨_,⟨{ E8 with dfs:=[] },⟨σ7.Gb,w7.heap.size⟩,FJ7,Gf7,wf7,rfl,rfl,kak hz2 tt.size,hA10,rfl⟩,ydb hA2 hA10 hd' tt (by have:=hr0.nle;omega)⟩
end
theorem yes{C:Cx}{r:Option Nat}{N:Nat}{c:Code}{Q:Exit->AS->Prop}{s:AS}(h:∀Post n,AWJ (β:=Unit) Post (λ_ _ _ _=>True) n C r N c (λe _ s'=>Q e s') [] s):AW C r N c Q s:=λPost F0 σ E a w fn Qr hr hQ =>
 h Post F0.n F0 σ E a w (λ_=>False) σ.Gb w fn Qr hr ⟨kac _,trivial,hr.idle _,λ_ h=>h.elim⟩ λe _out' s' σ' a' w' E' _ _ _ h1 h2 _ h4=>hQ e s' σ' a' w' E' h1 h2 h4
theorem zqj{C:Cx}{N:Nat}{s:AS}{α:Type}{g:Operand}{ps:Array Tmp}{assign body:Code}{Q:Exit->AS->Prop}{z:AV}{f:FuncId}{cap:List AV}{encV:α->Array Value}(encA:α->List AV){xs:List α}(T:AS)(M:List α->AS)
  (h0:Sub C.G N s (T++M [])) (hx:ev (T++M []) g=some z) (hc:zba z=some (f,[],cap)) (hcl:zbb cap=[]) (hg:zs6 C f cap encV xs)
  (hlen:∀x,(encA x).length=ps.size) (henc:∀x (E:Env) (w:World),yf1 E w (encA x) (encV x).toList) (hid:∀x,zbb (encA x)=[]) (hps:∀p∈ps.toList,p<N) (hM:∀pre t,zac (M pre) (2*t)=none)
  (hT:∀t,zac T (2*t)≠none->zno assign t=false/\zno body t=false/\t∉ps.toList)
  (hbody:∀(l:Nat) (pre:List α) (x:α) (rest:List α),xs=pre++x::rest->AW C (some l) N assign (λe s1=>e=.normal/\∀l,AW C (some l) N body (λe s2=>e=.normal/\Sub C.G N s2 (T++M (pre++[x]))) s1) (ztv ps.toList (encA x) (T++M pre)))
  (hdone:Q .normal (T++M xs)):AW C none N (.rangeFunc g ps assign body) Q s :=
 yes λ_Post _n=>zss encA T M (λ_=>[]) h0 hx hc hcl hg hlen henc hid hps hM hT (λl pre x rest hxs=>zqk (hbody l pre x rest hxs) λ_e _s1 ⟨h1,h2⟩=>⟨h1,λl=>zoy (h2 l) λ_e _s2 ⟨h3,h4⟩=>⟨h3,rfl,h4⟩⟩) hdone
end
end Go.Ab.J
namespace Go.Ab.J
open Go Go.RowKit
open Go.Kp (FSt jdgF WpR)
open Go.Conc (base)
theorem zwb {β : Type} {C : Cx} {f : FuncId} {fn : Func} {c : Code} {cap : List AV} {N : Nat} {encV : β -> Array Value} {xs : List β} (hf : C.P.funcs[f]? = some fn) (hb : fn.body = some c) (hN : fn.ntmps = N) (hn : (fn.name == "runtime.NumGoroutine") = false) (hres : fn.results = #[]) (hcl : zbb cap = []) (hl : Nat.ble (cap.length + 1) N = true)
  (h:∀(Post:Value->World->Prop) (l:Nat) (Jx:List β->(Nat->Prop)->(Nat->Prop)->World->Prop) (n:Nat),zyq C.P Post Jx n l encV xs->AWJ Post Jx n C none N c (λe out _=>(e=.normal\/e=.ret)/\out=xs) [] (zhk (.val (.func (.yield l) #[] #[])::cap) 0)):zs6 C f cap encV xs:=by
 subst hN
 refine⟨by simp [zdc,hf,hn,hb],λPost imm σ w vs l FJ Jx hah hg hr hF h0 hY c2 cs hm hJ=>?_⟩
 have hr2:yf1 (zca imm) w (.val (.func (.yield l) #[] #[])::cap) (.func (.yield l) #[] #[]::vs):=hr.cons (.val _)
 have hids:zbb (.val (.func (.yield l) #[] #[])::cap)=[]:=by simp [zbb,AV.ids,hcl]
 have hfr:=(zfh (N:=fn.ntmps) (C:=C) (by simpa using kah hl) hids hah hg hr2).less (fr:=λb=>(fb0 w imm σ.Gb).fr b/\¬FJ b) λ_ h=>h.1
 have hfj:Frj Jx w.heap.size { fb0 w imm σ.Gb with fr:=λb=>(fb0 w imm σ.Gb).fr b/\¬FJ b } (zhk (.val (.func (.yield l) #[] #[])::cap) 0) σ w (zca imm) [] FJ σ.Gb w :=
  ⟨kac _,h0,hfr.idle _,λb hb=>⟨(hF b hb).1,λh=>h.2 hb,(hF b hb).2.1,(hF b hb).2.1,λ⟨i,hi⟩=>(by rw [zk2] at hi;cases hi),λh=>(by cases h),(hF b hb).2.2⟩⟩
 rw [Conc.enter_at _ hf hb]
 have he:(#[.func (.yield l) #[] #[]]++vs.toArray:Array Value)=(.func (.yield l) #[] #[]::vs).toArray:=od
 rw [he]
 have hw:=h Post l Jx w.heap.size hY _ σ (zca imm) _ w FJ σ.Gb w f (λe σ' a' w'=>(e=.normal\/e=.ret)/\∃s' E' FJ' Gf' wf',FRel C.G fn.ntmps { fb0 w imm σ.Gb with fr:=λb=>(fb0 w imm σ.Gb).fr b/\¬FJ b } s' σ' a' w' E'/\Frj Jx w.heap.size { fb0 w imm σ.Gb with fr:=λb=>(fb0 w imm σ.Gb).fr b/\¬FJ b } s' σ' w' E' xs FJ' Gf' wf') hfr hfj
  λe out s' σ' a' w' E' FJ' Gf' wf' h1 h2 h3 _=>⟨h1.1,s',E',FJ',Gf',wf',h2,h1.2▸h3⟩
 have hleave:∀σ' a' w' todo,(∃s' E' FJ' Gf' wf',FRel C.G fn.ntmps { fb0 w imm σ.Gb with fr:=λb=>(fb0 w imm σ.Gb).fr b/\¬FJ b } s' σ' a' w' E'/\Frj Jx w.heap.size { fb0 w imm σ.Gb with fr:=λb=>(fb0 w imm σ.Gb).fr b/\¬FJ b } s' σ' w' E' xs FJ' Gf' wf')->(jdgF C.P Post).J σ' (Conc.G { (base f).atR a' todo with mode:=.returning } (c2::cs)) w':=by
  rintro σ' a' w' todo ⟨s',E',FJ',Gf',wf',hrel,hfrj⟩;refine zfb hf hJ hm hrel.snap (λ_ _ _=>.inr trivial) (λσ2 w2 E2 hr2=>⟨?_,λb t hbt=>by rw [hres] at hbt;simp at hbt⟩) todo;have h3:=(hfrj.run hrel hr2).bump;refine⟨.tuple #[],?_,FJ',Gf',wf',h3.j,h3.idle⟩;have:=zbw (P:=C.P) (fn:=fn) (tmps:=a'.tmps) (w:=w2) (vs:=[]) (by rw [hres];simp);simpa [zn5] using this
 have:=hw (base f) [] (c2::cs) rfl oU rfl λe σ' a' w' q=>?_
 .exact this
 .obtain⟨he,q⟩:=q;rcases he with rfl|rfl
  .exact Kp.Jdg.ctl (D:=jdgF C.P Post) rfl rfl rfl (λw1=>Conc.stepG_end (b:=base f)) (hleave σ' a' w' [] q)
  .exact⟨rfl,λtodo=>hleave σ' a' w' todo q⟩
section
variable{β:Type}{Post:Value->World->Prop}{Jx:List β->(Nat->Prop)->(Nat->Prop)->World->Prop}{n:Nat}{C:Cx}{r:Option Nat}{N:Nat}{c e:Code}{Q:Exit->List β->AS->Prop}{out:List β}{s:AS}
theorem znl(h:∀P:AS->Prop,(∀s',AWJ Post Jx n C r N e Q out s'->P s')->AW C r N c (zii P λ_ _=>False) s):AWJ Post Jx n C r N (.seq c e) Q out s :=
 zcq (zoy (h _ λ_ h=>h) λx s' hq=>by cases x<;>first|exact hq|exact hq.elim)
theorem ybk(h:∀P:AS->Prop,(∀s',Q .normal out s'->P s')->AW C r N c (zii P λ_ _=>False) s):AWJ Post Jx n C r N c Q out s :=
 zoy (h _ λ_ h=>h) λx s' hq=>by cases x<;>first|exact hq|exact hq.elim
theorem zw2{s':AS}(hs:Sub C.G N s s')(h:AWJ Post Jx n C r N c Q out s'):AWJ Post Jx n C r N c Q out s:=ybi hs h
theorem awN{R:AS->Prop}(h:∀P:AS->Prop,(∀s',R s'->P s')->AW C r N c (zii P λ_ _=>False) s):AW C r N c (λe s'=>e=.normal/\R s') s :=
 zqk (h _ λ_ h=>h) λx s' hq=>by cases x<;>first|exact⟨rfl,hq⟩|exact hq.elim
variable{ops rest:List Oper}{o:Oper}{K:List β->AS->Prop}{l:Nat}{encV:β->Array Value}{xs:List β}{R G:List Nat}{k t d:Nat}{x:za7}
theorem j1(next:znk C N l encV xs ops K rest out ((k,x)::s))(hg:Gd ops o s G:=by first|exact gdN rfl|exact gdT rfl rfl rfl)(h:AOp C N o R s [(k,x)]:=by exact ao1)(hf:AFt C o R s:=by exact af1)(hn:zd2 o=true:=by exact rfl):znk C N l encV xs ops K (o::rest) out s:=.inl ⟨_,[(k,x)],hn,znq hg (zax h hf),next⟩
theorem jF(next:znk C N l encV xs ops K rest out ((2*d,.av (.val undef))::s))(hg:GdF ops o s t:=by first|exact gdF rfl rfl rfl|exact gdU rfl rfl rfl)(hd:o.dst=some d:=by exact rfl)(hN:d<N:=by decide)(hn:zd2 o=true:=by exact rfl):znk C N l encV xs ops K (o::rest) out s:=by
 refine .inl ⟨[2*t],[(2*d,.av (.val undef))],hn,?_,next⟩;obtain⟨j,want,h1,h2,h3|h3⟩:=hg
 .unfold zek;rw [h1];exact⟨t,.bool !want,h2,h3,od,.inr ⟨by cases want<;>simp,d,hd,hN,rfl⟩⟩
 .unfold zek;rw [h1];exact⟨t,undef,h2,h3,od,.inr ⟨by simp [undef],d,hd,hN,rfl⟩⟩
theorem jE(h:K out s):znk C N l encV xs ops K [] out s:=h
theorem jY{y:Operand}{ys:Array Operand}{ts:Array TypeId}{ty:TypeId}{pos:String}{af:Array Edge}{j tg:Nat}{want:Bool}{zs:List AV}{b:β}{rest':List β}(next:znk C N l encV xs ops K rest (out++[b]) ((2*d,.av (.val (.bool true)))::s))(henc:∀(E:Env) (w:World) vs,yf1 E w zs vs->vs=(encV b).toList)(hxs:xs=out++b::rest')
  (ht:((ops.toArray)[j]?).bind (·.dst)=some tg:=by exact rfl) (hl:zac s (2*tg)=some (.av (.val (.bool want))):=by exact rfl) (hd:d<N:=by decide) (hy:ev s y=some (.val (.func (.yield l) #[] #[])):=by exact rfl) (hz:evL s ys.toList=some zs:=by exact rfl) :
  znk C N l encV xs ops K (⟨some d,.call { callee:=.value y,args:=ys,argTypes:=ts },ty,pos,af,some (j,want)⟩::rest) out s :=
 .inr <| .inl ⟨d,y,ys,ts,ty,pos,af,some (j,want),b,rest',rfl,hd,λtmps h=>by simp [Region.wanted,zo6 ht (h tg _ hl)],hy,⟨zs,hz,henc⟩,hxs,next⟩
theorem jY0{y:Operand}{ys:Array Operand}{ts:Array TypeId}{ty:TypeId}{pos:String}{af:Array Edge}{zs:List AV}{b:β}{rest':List β}(next:znk C N l encV xs ops K rest (out++[b]) ((2*d,.av (.val (.bool true)))::s))(henc:∀(E:Env) (w:World) vs,yf1 E w zs vs->vs=(encV b).toList)(hxs:xs=out++b::rest')
  (hd:d<N:=by decide) (hy:ev s y=some (.val (.func (.yield l) #[] #[])):=by exact rfl) (hz:evL s ys.toList=some zs:=by exact rfl) :
  znk C N l encV xs ops K (⟨some d,.call { callee:=.value y,args:=ys,argTypes:=ts },ty,pos,af,none⟩::rest) out s :=
 .inr <| .inl ⟨d,y,ys,ts,ty,pos,af,none,b,rest',rfl,hd,λtmps h=>by simp [Region.wanted],hy,⟨zs,hz,henc⟩,hxs,next⟩
end
theorem z9t{C:Cx}{N:Nat}{F0:FB}{s:AS}{σ:FSt}{a:Act}{w:World}{E:Env}{fn:Func}{r:Value}(h:FRel C.G N F0 s σ a w E)(hres:zck C s fn.results.toList=some (.val r)):(results fn a.tmps).run C.P w=.ok r w/\∀b t,ResultVar.cell b t∈fn.results.toList->Kp.PtA (inA E s w) (a.tmps.getD b undef):=by
 unfold zck at hres;split at hres
 .rename_i x hx;cases hres
  refine⟨?_,zgm h.rel hx⟩;obtain⟨us,g1,g2,g3⟩:=zem h.rel hx;obtain⟨v,us',rfl,hv,hn⟩:=g2.inv;have:us'=[]:=kas hn.1.symm;subst this;have:=hv.val_eq;subst this;exact zbw g1
 .cases hres
 .cases hres
theorem z20 {β : Type} {C : Cx} {f : FuncId} {fn : Func} {c : Code} {args : List AV} {r : Value} {l : Nat} {encV : β -> Array Value} {xs out out' : List β} (hf : C.P.funcs[f]? = some fn) (hb : fn.body = some c) {N : Nat} (hN : fn.ntmps = N) (hn : (fn.name == "runtime.NumGoroutine") = false) (hids : zbb args = []) (hl : Nat.ble args.length N = true)
  (h:∀(Post:Value->World->Prop) (Jx:List β->(Nat->Prop)->(Nat->Prop)->World->Prop) (n:Nat),zyq C.P Post Jx n l encV xs->AWJ Post Jx n C none N c (λe o s=>(e=.normal\/e=.ret)/\o=out'/\zck C s fn.results.toList=some (.val r)) out (zhk args 0)):yca C f args r l encV xs out out':=by
 subst hN
 refine⟨by simp [zdc,hf,hn,hb],λPost Jx n imm σ w vs FJ Gf wf hY hah hg hr hnw h0 hid hF c2 cs hm hJ=>?_⟩
 have hfr:=(zfh (N:=fn.ntmps) (C:=C) (kah hl) hids hah hg hr).less (fr:=λb=>(fb0 w imm σ.Gb).fr b/\¬FJ b) λ_ h=>h.1
 have hfj:Frj Jx n { fb0 w imm σ.Gb with fr:=λb=>(fb0 w imm σ.Gb).fr b/\¬FJ b } (zhk args 0) σ w (zca imm) out FJ Gf wf :=
  ⟨hnw,h0,hid,λb hb=>⟨(hF b hb).1,λh=>h.2 hb,(hF b hb).2.1,(hF b hb).2.1,λ⟨i,hi⟩=>(by rw [zk2] at hi;cases hi),λh=>(by cases h),(hF b hb).2.2⟩⟩
 rw [Conc.enter_at _ hf hb]
 obtain⟨F0,hF0⟩:∃F0,F0=({ fb0 w imm σ.Gb with fr:=λb=>(fb0 w imm σ.Gb).fr b/\¬FJ b }:FB):=⟨_,rfl⟩
 rw [<-hF0] at hfr hfj
 have hw:=h Post Jx n hY F0 σ (zca imm) _ w FJ Gf wf f (λe σ' a' w'=>(e=.normal\/e=.ret)/\∃s' E' FJ' Gf' wf',FRel C.G fn.ntmps F0 s' σ' a' w' E'/\Frj Jx n F0 s' σ' w' E' out' FJ' Gf' wf'/\zck C s' fn.results.toList=some (.val r)) hfr hfj
  λe out s' σ' a' w' E' FJ' Gf' wf' h1 h2 h3 _=>⟨h1.1,s',E',FJ',Gf',wf',h2,h1.2.1▸h3,h1.2.2⟩
 have hleave:∀σ' a' w' todo,(∃s' E' FJ' Gf' wf',FRel C.G fn.ntmps F0 s' σ' a' w' E'/\Frj Jx n F0 s' σ' w' E' out' FJ' Gf' wf'/\zck C s' fn.results.toList=some (.val r))->(jdgF C.P Post).J σ' (Conc.G { (base f).atR a' todo with mode:=.returning } (c2::cs)) w':=by
  rintro σ' a' w' todo ⟨s',E',FJ',Gf',wf',hrel,hfrj,hres⟩;refine zfb hf hJ hm hrel.snap (λ_ _ _=>.inr trivial) (λσ2 w2 E2 hr2=>?_) todo;obtain⟨k1,k2⟩:=z9t hr2 hres;refine⟨⟨r,k1,rfl,FJ',Gf',wf',?_⟩,k2⟩;have h3:=(hfrj.run hrel hr2).bump;have h4:=(hrel.back hr2).bump;refine⟨h3.j,h3.idle,λb hb=>(h3.dis b hb).1,?_⟩;subst hF0
  have hcl:∀b,b<w.heap.size->¬FJ b->¬σ.Gb b->w2.heap[b]?=w.heap[b]?:=λb hb hx hg=>(h4.keep b (by by_cases hi:imm b;exact .inr hi;exact .inl ⟨⟨hb,hi,hg⟩,hx⟩)).2.1;refine⟨h4.size,hcl,λb hb=>⟨?_,kaf (h3.dis b hb).1 h3.idle.size,(h3.dis b hb).2.2.2.2.2.2⟩,h4.gbO,kac _,h4.gs,h4.os,h4.out,λb o h1 _ h2 h5=>h3.idle.near b o h1 h2 h5⟩;rcases kae b w.heap.size with hlt|hge
  .exact .inl (Classical.not_not.1 λhx=>(h3.dis b hb).2.1 ⟨⟨hlt,(h3.dis b hb).2.2.1,λhg=>(h3.dis b hb).2.2.2.2.2.2 ((h4.gbO b).1 hg)⟩,hx⟩)
  .exact .inr hge
 have:=hw (base f) [] (c2::cs) rfl oU rfl λe σ' a' w' q=>?_
 .exact this
 .obtain⟨he,q⟩:=q;rcases he with rfl|rfl
  .exact Kp.Jdg.ctl (D:=jdgF C.P Post) rfl rfl rfl (λw1=>Conc.stepG_end (b:=base f)) (hleave σ' a' w' [] q)
  .exact⟨rfl,λtodo=>hleave σ' a' w' todo q⟩
section
variable{β:Type}{C:Cx}{N:Nat}{s:AS}{ops rest:List Oper}{K:List β->AS->Prop}{l d:Nat}{encV:β->Array Value}{xs out:List β}
theorem jZ{y:Operand}{ys:Array Operand}{ts:Array TypeId}{ty:TypeId}{pos:String}{af:Array Edge}{g:Option (Nat×Bool)}{z:AV}{f:FuncId}{p q zs:List AV}(h:∃r out',yca C f (p++zs++q) r l encV xs out out'/\znk C N l encV xs ops K rest out' ((2*d,.av (.val r))::s))
  (hw:(g=none\/∃j tg want,g=some (j,want)/\((ops.toArray)[j]?).bind (·.dst)=some tg/\zac s (2*tg)=some (.av (.val (.bool want)))):=by first|exact .inl rfl|exact .inr ⟨_,_,_,rfl,rfl,rfl⟩) (hd:d<N:=by decide) (hy:ev s y=some z:=by exact rfl) (hc:zba z=some (f,p,q):=by exact rfl) (hz:evL s ys.toList=some zs:=by exact rfl) (hi:zbb (p++zs++q)=[]:=by exact rfl) :
  znk C N l encV xs ops K (⟨some d,.call { callee:=.value y,args:=ys,argTypes:=ts },ty,pos,af,g⟩::rest) out s :=
 .inr <| .inr ⟨d,y,ys,ts,ty,pos,af,g,z,f,p,q,zs,_,h.choose,h.choose_spec.choose,rfl,hd,λtmps h=>by
  rcases hw with rfl|⟨j,tg,want,rfl,ht,hl⟩
  .simp [Region.wanted]
  .simp [Region.wanted,zo6 ht (h tg _ hl)],hy,hc,hz,λN w0 a w E us hr hr2=>yf1.step (E:=E) (E':=zca (zqt E s)) (λ_ h=>.inl h) (zdy.refl E w) hr2 oV,h.choose_spec.choose_spec.1,h.choose_spec.choose_spec.2⟩
theorem jZc{y:Operand}{ys:Array Operand}{ts:Array TypeId}{ty:TypeId}{pos:String}{af:Array Edge}{z:AV}{f:FuncId}{p q zs:List AV}(args:List AV)(r:Value)(out':List β)(hconv:∀(N:Nat) w0 a w E us,Rel C.G N w0 s a w E->yf1 E w (p++zs++q) us->yf1 (zca (zqt E s)) w args us)(h:yca C f args r l encV xs out out')(next:znk C N l encV xs ops K rest out' ((2*d,.av (.val r))::s))
  (hd:d<N:=by decide) (hy:ev s y=some z:=by exact rfl) (hc:zba z=some (f,p,q):=by exact rfl) (hz:evL s ys.toList=some zs:=by exact rfl) :
  znk C N l encV xs ops K (⟨some d,.call { callee:=.value y,args:=ys,argTypes:=ts },ty,pos,af,none⟩::rest) out s :=
 .inr <| .inr ⟨d,y,ys,ts,ty,pos,af,none,z,f,p,q,zs,args,r,out',rfl,hd,λtmps h=>by simp [Region.wanted],hy,hc,hz,hconv,h,next⟩
end
end Go.Ab.J
namespace Go.Ab.J
open Go Go.RowKit
open Go.Kp (FSt jdgF WpR wpR_loop)
section
variable{β:Type}{Post:Value->World->Prop}{Jx:List β->(Nat->Prop)->(Nat->Prop)->World->Prop}{n:Nat}{C:Cx}{r:Option Nat}{N:Nat}{c e:Code}{Q:Exit->List β->AS->Prop}{out:List β}{s:AS}
theorem awjX{i:Nat}(h:Q (.exit i) out s):AWJ Post Jx n C r N (.exit i) Q out s:=zoy (zur (Q:=λe s'=>e=.exit i/\s'=s) ⟨rfl,rfl⟩) λe s' ⟨h1,h2⟩=>by subst h1;subst h2;exact h
theorem awjR(h:Q .ret out s):AWJ Post Jx n C r N .ret Q out s:=zoy (z2q (Q:=λe s'=>e=.ret/\s'=s) ⟨rfl,rfl⟩) λe s' ⟨h1,h2⟩=>by subst h1;subst h2;exact h
theorem yer(h:Q .normal out s):AWJ Post Jx n C r N .skip Q out s:=zoy (zuq (Q:=λe s'=>e=.normal/\s'=s) ⟨rfl,rfl⟩) λe s' ⟨h1,h2⟩=>by subst h1;subst h2;exact h
theorem z6m{Q':Exit->List β->AS->Prop}(h:AWJ Post Jx n C r N c Q' out s)(hq:∀e o s,Q' e o s->Q e o s):AWJ Post Jx n C r N c Q out s:=λF0 σ E a w FJ Gf wf fn Qr hr hf hQ =>
 h F0 σ E a w FJ Gf wf fn Qr hr hf λe o' s' σ' a' w' E' FJ' Gf' wf' h1=>hQ e o' s' σ' a' w' E' FJ' Gf' wf' (hq _ _ _ h1)
theorem ybj(M:List β->Prop)(s1:AS)(h1:AWJ Post Jx n C r N c (λe o s'=>e=.normal/\M o/\Sub C.G N s' s1) out s)(h2:∀o,M o->AWJ Post Jx n C r N e Q o s1):AWJ Post Jx n C r N (.seq c e) Q out s :=
 zcq (z6m h1 λe o s' ⟨he,hm,hs⟩=>by subst he;exact zw2 hs (h2 o hm))
theorem z6n{ι:Type}(St:ι->AS)(O:ι->List β)(μ:ι->Nat)(i0:ι)(h0:Sub C.G N s (St i0))(ho:out=O i0)(h:∀i,AWJ Post Jx n C r N c (zjf (λo' s'=>∃j,Sub C.G N s' (St j)/\o'=O j/\μ j<μ i) Q) (O i) (St i)):AWJ Post Jx n C r N (.loop c) Q out s:=λF0 σ E a w FJ Gf wf fn Qr hr hf hQ=>by
 subst ho;obtain⟨E0,hr0'⟩:=h0 _ a w E hr.snap.rel;have hr0:=hr.snap.sub hr0';refine wpR_loop (InvImage.wf μ kbu) (λi σ1 a1 w1=>∃E1 FJ1 Gf1 wf1,FRel C.G N F0 (St i) σ1 a1 w1 E1/\Frj Jx n F0 (St i) σ1 w1 E1 (O i) FJ1 Gf1 wf1/\zqv c a a1) i0 ⟨E0,FJ,Gf,wf,hr.back hr0,hf.run hr hr0,zqv.refl _ _⟩ ?_;rintro i σ1 a1 w1 ⟨E1,FJ1,Gf1,wf1,hr1,hf1,hs1⟩
 refine h i F0 σ1 E1 a1 w1 FJ1 Gf1 wf1 fn _ hr1 hf1 λe o' s' σ' a' w' E' FJ' Gf' wf' h1 h2 hf2 h3=>?_;have hs:zqv c a a':=λt ht=>(h3 t ht).trans (hs1 t ht);cases e with
 | normal =>obtain⟨j,hsub,rfl,hlt⟩:=h1;obtain⟨E2,h4⟩:=hsub _ a' w' E' h2.snap.rel;have h5:=h2.snap.sub h4;exact⟨j,hlt,E2,FJ',Gf',wf',h2.back h5,hf2.run h2 h5,hs⟩
 | _=>exact hQ _ o' s' σ' a' w' E' FJ' Gf' wf' h1 h2 hf2 λt ht=>hs t ht
end
end Go.Ab.J
namespace Go.Kp
open Go Go.Conc
variable{D:Jdg}{P:Program}{main:Bool}{b:Frame}{a:Act}{k:List Item}{cs:List Frame}{w:World}
theorem z5n{c:Code}:stepG P main (G (b.atR a (.code (.scope c)::k)) cs) w=.go (G (b.atR a (.code c::.inScope c::k)) cs) w:=by simp [G,stepG,stepG.exec,Frame.atR]
theorem zx9{c:Code}:stepG P main (G (b.atR a (.inScope c::k)) cs) w=.go (G (b.atR a k) cs) w:=by simp [G,stepG,stepG.exec,Frame.atR]
theorem wpR_scope{r:Option Nat}{fn:FuncId}{c:Code}{Q:Exit->D.St->Act->World->Prop}{s:D.St}(h:WpR D r fn c Q s a w):WpR D r fn (.scope c) Q s a w:=by
 intro b k cs hb hk hr hc;refine Jdg.ctl rfl rfl rfl (λ_=>z5n) (h b (.inScope c::k) cs hb hk hr λe s' a' w' q=>?_);have:=hc e s' a' w' q;cases e with
 | normal=>exact Jdg.ctl rfl rfl rfl (λ_=>zx9) this
 | exit id=>obtain⟨k',h1,h2⟩:=this;exact⟨k',h1,h2⟩
 | ret=>exact this
 | goto l=>exact this
 | panic ch=>exact this
 | outgrown=>exact this
end Go.Kp
namespace Go.Ab
open Go Go.RowKit Go.Kp
variable{C:Cx}
namespace J
open Go.Kp (FSt jdgF WpR OpsR)
open Go.Conc (base)
theorem z8l {f : FuncId} {fn : Func} {c : Code} {args : List AV} {r : AV} (hf : C.P.funcs[f]? = some fn) (hb : fn.body = some c) (hn : (fn.name == "runtime.NumGoroutine") = false) (hN : Nat.ble args.length fn.ntmps = true) (hids : zbb args = [])
  (h:∀(Post:Value->World->Prop) (F0:FB) σ E a w,FRel C.G fn.ntmps F0 (zhk args 0) σ a w E->WpR (jdgF C.P Post) none f c (λe σ' a' w'=>(e=.normal\/e=.ret)/\∃s' E',FRel C.G fn.ntmps F0 s' σ' a' w' E'/\zck C s' fn.results.toList=some r) σ a w) (hr:r.ids=[]):AFn C f args r:=by
 refine⟨hr,by simp [zdc,hf,hn,hb],λPost imm σ w vs hah hg hrep b cs hm hJ=>?_⟩
 rw [Conc.enter_at _ hf hb]
 have h0:=zfh (N:=fn.ntmps) (C:=C) (kah hN) hids hah hg hrep
 have hw:=h Post _ σ _ _ w h0
 have hleave:∀σ' a' w' todo,(∃s' E',FRel C.G fn.ntmps (fb0 w imm σ.Gb) s' σ' a' w' E'/\zck C s' fn.results.toList=some r)->(jdgF C.P Post).J σ' (Conc.G { (base f).atR a' todo with mode:=.returning } (b::cs)) w':=by
  rintro σ' a' w' todo ⟨s',E',hrel,hres⟩;refine zfb hf hJ hm hrel (λ_ _ _=>.inr trivial) (λσ2 w2 E2 hr2=>⟨?_,?_⟩) todo
  .unfold zck at hres;split at hres
   .rename_i x hx;cases hres
    obtain⟨us,g1,g2,g3⟩:=zem hr2.rel hx;obtain⟨v,us',rfl,hv,hn⟩:=g2.inv;have:us'=[]:=kas hn.1.symm;subst this;exact⟨v,zbw g1,zjs hr2,za8 (E':=zca _) hv hr λb hb=>zhg hr2 hb⟩
   .rename_i xs hne hx;cases hres
    obtain⟨us,g1,g2,g3⟩:=zem hr2.rel hx;have hul:us.length≠1:=λh1=>by
     have:=g2.1
     match xs,hne with
     | [],_=>simp at this;omega
     | [x],hne=>exact hne x rfl
     | a::b::l,_=>simp at this;omega
    have:(results fn a'.tmps).run C.P w2=.ok (.tuple us.toArray) w2:=by rw [zbw g1,zg6 hul]
    exact⟨_,this,zjs hr2,za8 (E':=zca _) (Rep.tup (E:=zca (zqt E2 s')) xs us g2.1 g2.2) hr λb hb=>zhg hr2 hb⟩
   .cases hres
  .unfold zck at hres;split at hres
   .rename_i x hx;exact zgm hr2.rel hx
   .rename_i xs _ hx;exact zgm hr2.rel hx
   .cases hres
 have:=hw (base f) [] (b::cs) rfl oU rfl λe σ' a' w' q=>?_
 .exact this
 .obtain⟨he,q⟩:=q;rcases he with rfl|rfl
  .exact Kp.Jdg.ctl (D:=jdgF C.P Post) rfl rfl rfl (λw1=>Conc.stepG_end (b:=base f)) (hleave σ' a' w' [] q)
  .exact⟨rfl,λtodo=>hleave σ' a' w' todo q⟩
theorem z2z {f : FuncId} {fn : Func} {c d : Code} {args : List AV} {r : AV} {N : Nat} (hf : C.P.funcs[f]? = some fn) (hb : fn.body = some (.seq c (.scope d))) (hN : fn.ntmps = N) (hn : (fn.name == "runtime.NumGoroutine") = false) (hl : Nat.ble args.length N = true) (hids : zbb args = [])
  (h:∀Q:Exit->AS->Prop,(∀e s,(e=.normal\/e=.ret)/\zck C s fn.results.toList=some r->Q e s)->AW C none N c (zii (AW C none N d Q) λ_ _=>False) (zhk args 0)) (hr:r.ids=[]):AFn C f args r:=by
 subst hN
 refine z8l hf hb hn hl hids (λPost F0 σ E a w hfr=>?_) hr
 refine Kp.wpR_seq (h _ (λ_ _ h=>h) Post F0 σ E a w f _ hfr λe s' σ' a' w' E' h1 h2 _=>?_)
 cases e with
 | normal=>exact Kp.wpR_scope (h1 Post F0 σ' E' a' w' f _ h2 λe s2 σ2 a2 w2 E2 g1 g2 _=>⟨g1.1,s2,E2,g2,g1.2⟩)
 | _=>exact h1.elim
end J
end Go.Ab
