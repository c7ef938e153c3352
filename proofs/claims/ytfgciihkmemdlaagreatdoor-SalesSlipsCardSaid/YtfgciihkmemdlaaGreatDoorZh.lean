/- What all laws about sales rest on, beside any goroutines. Conditions: none. -/
import Derived.Test.YtfgciihkmemdlaaGreatDoorZa
import Derived.AtR
import Derived.Conc.MuSpec
import Derived.Great.BuildSlice
import Derived.Great.FillDense
import Derived.Laws.OwnMore
import Derived.LoopNIn
import Derived.MapKept
import Derived.Maps.AppendAt
import Derived.OwnWalkIn
import Derived.RangeFuncBound
import Derived.RangeFuncCalls
import Derived.RangeFuncLeaves
import Derived.RangeFuncNested
import Derived.RangeFuncRecord
import Derived.Shelf.Abstract
import Derived.TacticsInMore
import Derived.WalkKit
namespace Go.Kp
open Go
inductive za3:Value->Prop
 | bool (b:Bool):za3 (.bool b)
 | int (k:IntKind) (n:Int):za3 (.int k n)
 | string (s:ByteArray):za3 (.string s)
 | agg (cs:Array Value) (h:∀v∈cs,za3 v):za3 (.agg cs)
 | func (fn:Fn) (a b:Array Value):za3 (.func fn a b)
 | nilFunc:za3 .nilFunc
def Near:Obj->Prop
 | .map es _=>∀e∈es,za3 e.key
 | .cells _ _ _|.mapIter _ _ _ _|.stringIter _ _|.loop _|.deferred _=>True
 | _=>False
def Ft{α:Type}(A:Nat->Prop)(P:Program)(Q:α->Prop):Sem α->Prop
 | .pure a=>Q a
 | .load _ a k=>A a.block/\∀v,Ft A P Q (k v)
 | .store _ a _ k=>A a.block/\Ft A P Q k
 | .new o k=>Near o/\∀r,A r->Ft A P Q (k r)
 | .shape _ k=>∀s,Ft A P Q (k s)
 | .freeze _ _ _=>False
 | .frozen _ k=>∀b,Ft A P Q (k b)
 | .getObj r k=>A r/\∀o,Near o->Ft A P Q (k o)
 | .setObj r o k=>A r/\Near o/\Ft A P Q k
 | .choose _ k=>∀n,Ft A P Q (k n)
 | .sys _ _=>False
 | .program k=>Ft A P Q (k P)
 | .mark m k=>zs5 m/\Ft A P Q k
 | .halt _=>True
section
variable{A:Nat->Prop}{P:Program}
theorem ft_bind{α β:Type}(e:Sem α)(f:α->Sem β)(Q:β->Prop):Ft A P Q (e >>= f)↔Ft A P (λa=>Ft A P Q (f a)) e:=by
 show Ft A P Q (Sem.bind e f)↔_;induction e with
 | pure a=>simp [Sem.bind,Ft]
 | load m a k ih=>simp [Sem.bind,Ft,ih]
 | store m a v k ih=>simp [Sem.bind,Ft,ih]
 | new o k ih=>simp [Sem.bind,Ft,ih]
 | shape r k ih=>simp [Sem.bind,Ft,ih]
 | freeze a n k ih=>simp [Sem.bind,Ft]
 | frozen a k ih=>simp [Sem.bind,Ft,ih]
 | getObj r k ih=>simp [Sem.bind,Ft,ih]
 | setObj r o k ih=>simp [Sem.bind,Ft,ih]
 | choose q k ih=>simp [Sem.bind,Ft,ih]
 | sys c k ih=>simp [Sem.bind,Ft]
 | program k ih=>simp [Sem.bind,Ft,ih]
 | mark m k ih=>simp [Sem.bind,Ft,ih]
 | halt h=>simp [Sem.bind,Ft]
theorem ft_mono{α:Type}{Q Q':α->Prop}{e:Sem α}(h:Ft A P Q e)(hq:∀a,Q a->Q' a):Ft A P Q' e:=by
 induction e with
 | pure a=>exact hq _ h
 | load m a k ih=>exact⟨h.1,λv=>ih v (h.2 v)⟩
 | store m a v k ih=>exact⟨h.1,ih h.2⟩
 | new o k ih=>exact⟨h.1,λr hr=>ih r (h.2 r hr)⟩
 | shape r k ih=>exactλs=>ih s (h s)
 | freeze a n k ih=>exact h
 | frozen a k ih=>exactλs=>ih s (h s)
 | getObj r k ih=>exact⟨h.1,λo ho=>ih o (h.2 o ho)⟩
 | setObj r o k ih=>exact⟨h.1,h.2.1,ih h.2.2⟩
 | choose q k ih=>exactλn=>ih n (h n)
 | sys c k ih=>exact h
 | program k ih=>exact ih _ h
 | mark m k ih=>exact⟨h.1,ih h.2⟩
 | halt h'=>trivial
def EvA(A:Nat->Prop)(B:Nat)(e:Event):Prop :=
 match e.loc with
 | .cell a=>A a.block/\a.block<B
 | .obj r=>A r/\r<B
 | .mark m=>zs5 m
 | _=>False
theorem EvA.mono{B B':Nat}{e:Event}(h:EvA A B e)(hB:B<=B'):EvA A B' e:=by
 unfold EvA at *;split at h
 .exact⟨h.1,oc⟩
 .exact⟨h.1,oc⟩
 .exact h
 .exact h.elim
def zqq(A:Nat->Prop)(w:World):Prop:=∀b o,A b->w.heap[b]?=some o->Near o
structure zqo(A:Nat->Prop)(w w':World)(new:Array Event):Prop where
 near:zqq A w'
 size:w.heap.size<=w'.heap.size
 tape:w'.tape=w.tape
 os:w'.os=w.os
 output:w'.output=w.output
 evs:∀e∈new,EvA A w'.heap.size e
 frame:∀b,¬A b->w'.heap[b]?=w.heap[b]?
theorem zqo.refl{w:World}(h:zqq A w):zqo A w w #[]:=⟨h,kac _,rfl,rfl,rfl,od,λ_ _=>rfl⟩
theorem zqo.trans{a b c:World}{x y:Array Event}(h:zqo A a b x)(k:zqo A b c y):zqo A a c (x++y) :=
 ⟨k.near,kak h.size k.size,k.tape.trans h.tape,k.os.trans h.os,k.output.trans h.output,
   λe he=>(kco.1 he).elim (λhe=>(h.evs e he).mono k.size) (k.evs e),λb hb=>(k.frame b hb).trans (h.frame b hb)⟩
theorem z47{w:World}(h:zqq A w){a:Addr}(ha:A a.block)(b:Bool):∃s,w.farLoad P a b=.error (.stuck s):=by
 unfold World.farLoad;split
 .rename_i hb;exact(h _ _ ha hb).elim
 .unfold World.noCell;split
  .rename_i hb;exact(h _ _ ha hb).elim
  .rename_i hb;exact(h _ _ ha hb).elim
  .exact⟨_,rfl⟩
theorem z0p{w:World}(h:zqq A w){a:Addr}(ha:A a.block)(v:Value)(b:Bool):∃s,w.farStore P a v b=.error (.stuck s):=by
 unfold World.farStore;split
 .rename_i hb;exact(h _ _ ha hb).elim
 .unfold World.noCell;split
  .rename_i hb;exact(h _ _ ha hb).elim
  .rename_i hb;exact(h _ _ ha hb).elim
  .exact⟨_,rfl⟩
theorem zrk{w:World}(h:zqq A w){a:Addr}(ha:A a.block){v u:Value}(hu:w.cell? a=some u)(m:Bool):zqo A w (w.setCell a v) #[⟨.cell a,true,m⟩]:=by
 have hlt:=z2k hu;refine⟨λb o hb ho=>?_,by simp [World.setCell],rfl,rfl,rfl,λe he=>?_,λb hb=>?_⟩
 .simp only [World.setCell] at ho;rw [Array.getElem?_modify] at ho;split at ho
  .obtain⟨o',ho',rfl⟩:=kan.1 ho;have:=h _ _ hb ho';split
   .split
    .exact this
    .trivial
   .exact this
  .exact h _ _ hb ho
 .simp at he;subst he;exact⟨ha,by simpa [World.setCell] using hlt⟩
 .simp only [World.setCell];rw [Array.getElem?_modify,if_neg (by intro e;subst e;exact hb ha)]
theorem zz8{w:World}(h:zqq A w){o:Obj}(ho:Near o)(hf:A w.heap.size):zqo A w { w with heap:=w.heap.push o } #[]:=by
 refine⟨λb o' hb ho'=>?_,od,rfl,rfl,rfl,od,λb hb=>?_⟩
 .simp only [kbr] at ho';split at ho'
  .cases ho';exact ho
  .exact h _ _ hb ho'
 .simp only [kbr];rw [if_neg (by intro e;subst e;exact hb hf)]
theorem ztt{w:World}(h:zqq A w){r:Nat}{o u:Obj}(hr:A r)(ho:Near o)(hu:w.heap[r]?=some u)(m:Bool):zqo A w { w with heap:=w.heap.setIfInBounds r o } #[⟨.obj r,true,m⟩]:=by
 have hlt:=(kad.1 hu).1;refine⟨λb o' hb ho'=>?_,od,rfl,rfl,rfl,λe he=>?_,λb hb=>?_⟩
 .simp only [kcl] at ho';split at ho'
  .first
   | (cases ho';exact ho)
   | (split at ho'
      .cases ho';exact ho
      .cases ho')
  .exact h _ _ hb ho'
 .simp at he;subst he;exact⟨hr,oa hlt⟩
 .simp only [kcl];rw [if_neg (by intro e;subst e;exact hb hr)]
theorem zqo.more{w w':World}{new:Array Event}{e:Event}(h:zqo A w w' new)(he:EvA A w'.heap.size e):zqo A w w' (#[e]++new) :=
 ⟨h.near,h.size,h.tape,h.os,h.output,λx hx=>(kco.1 hx).elim (λhx=>by simp at hx;subst hx;exact he) (h.evs x),h.frame⟩
theorem z59{B:Nat}{a:Addr}{x m:Bool}(h:A a.block/\a.block<B):EvA A B ⟨.cell a,x,m⟩:=h
theorem ya5{B r:Nat}{x m:Bool}(h:A r/\r<B):EvA A B ⟨.obj r,x,m⟩:=h
theorem z58{B:Nat}{k:Mark}{x m:Bool}(h:zs5 k):EvA A B ⟨.mark k,x,m⟩:=h
theorem ft_run{α:Type}{Q:α->Prop}:∀(s:Sem α),Ft A P Q s->∀(w:World) (es:Array Event),zqq A w->(∀r,w.heap.size<=r->A r)->
  ∃r new,s.runT P w es=(r,es++new)/\zqo A w (Result.wld r) new/\(match r with|.ok a _=>Q a|.halt _ _=>True):=by
 intro s
 induction s with
 | pure a=>exactλh w es hw hf=>⟨.ok a w,#[],by simp only [Sem.runT,ka4],.refl hw,h⟩
 | halt hh=>exactλh w es hw hf=>⟨.halt hh w,#[],by simp only [Sem.runT,ka4],.refl hw,trivial⟩
 | load m a k ih =>
   intro h w es hw hf;cases hc:w.cell? a with
   | some v =>obtain⟨r,new,h1,h2,h3⟩:=ih v (h.2 v) w (es.push ⟨.cell a,false,m == .atomic⟩) hw hf;exact⟨r,#[⟨.cell a,false,m == .atomic⟩]++new,by simp only [Sem.runT,hc,h1];simp only [kcw,kc6],h2.more (z59 ⟨h.1,kaf (z2k hc) h2.size⟩),h3⟩
   | none =>obtain⟨st,hst⟩:=z47 (P:=P) hw h.1 (m == .atomic);exact⟨.halt (.stuck st) w,#[],by simp only [Sem.runT,hc,hst,ka4],.refl hw,trivial⟩
 | store m a v k ih =>
   intro h w es hw hf;have stuckCase:∀st,(∀es₂,(Sem.store m a v k).runT P w es₂=(.halt (.stuck st) w,es₂))->∃r new,(Sem.store m a v k).runT P w es=(r,es++new)/\zqo A w (Result.wld r) new/\(match r with|.ok a _=>Q a|.halt _ _=>True):=λst hs =>
    ⟨.halt (.stuck st) w,#[],by rw [hs es,ka4],.refl hw,trivial⟩
   have plain:(∀es₂,(Sem.store m a v k).runT P w es₂=match w.cell? a with
     | some _ =>
       if w.frozen? a then (.halt (.unsupported (.unsafePointer "a write to bytes that a string shares")) w, es₂)
       else k.runT P (w.setCell a v) (es₂.push ⟨.cell a,true,m == .atomic⟩)
     | none=>match w.farStore P a v (m == .atomic) with
       | .ok (w,touched)=>k.runT P w (es₂++touched.toArray.map (⟨.cell ·,true,m == .atomic⟩))
       | .error h=>(.halt h w,es₂))->∃r new,(Sem.store m a v k).runT P w es=(r,es++new)/\zqo A w (Result.wld r) new/\(match r with|.ok a _=>Q a|.halt _ _=>True):=by
    intro hp
    cases hc:w.cell? a with
    | none =>obtain⟨st,hst⟩:=z0p (P:=P) hw h.1 v (m == .atomic);refine stuckCase st λes₂=>?_;rw [hp,hc];simp [hst]
    | some u =>
      cases hfz:w.frozen? a with
      | true => exact ⟨.halt (.unsupported (.unsafePointer "a write to bytes that a string shares")) w, #[], by rw [hp, hc]; simp only [hfz, if_true, ka4], .refl hw, trivial⟩
      | false =>have hr:=zrk (v:=v) hw h.1 hc (m == .atomic);obtain⟨r,new,h1,h2,h3⟩:=ih h.2 (w.setCell a v) (es.push ⟨.cell a,true,m == .atomic⟩) hr.near (λr hr2=>hf r (kak hr.size hr2));exact⟨r,#[⟨.cell a,true,m == .atomic⟩]++new,by rw [hp,hc];simp only [hfz,kbd,if_false,h1];simp only [kcw,kc6],hr.trans h2,h3⟩
   cases v with
   | agg cs=>exact stuckCase _ λes₂=>rfl
   | tuple cs=>exact stuckCase _ λes₂=>rfl
   | _=>exact plain λes₂=>rfl
 | new o k ih =>intro h w es hw hf;have hr:=zz8 hw h.1 (hf _ (kac _));obtain⟨r,new,h1,h2,h3⟩:=ih w.heap.size (h.2 _ (hf _ (kac _))) { w with heap:=w.heap.push o } es hr.near (λr hr2=>hf r (kak hr.size hr2));exact⟨r,new,by simp only [Sem.runT,h1],by simpa using hr.trans h2,h3⟩
 | shape r k ih =>intro h w es hw hf;obtain⟨r',new,h1,h2,h3⟩:=ih (w.shape? r) (h _) w es hw hf;exact⟨r',new,by simp only [Sem.runT,h1],h2,h3⟩
 | freeze a n k ih=>intro h;exact h.elim
 | frozen a k ih =>intro h w es hw hf;obtain⟨r',new,h1,h2,h3⟩:=ih (w.frozen? a) (h _) w es hw hf;exact⟨r',new,by simp only [Sem.runT,h1],h2,h3⟩
 | getObj r k ih =>
   intro h w es hw hf;cases hr:w.heap[r]? with
   | none => exact ⟨.halt (.stuck "getObj: no such block") w, #[], by simp only [Sem.runT, hr, ka4], .refl hw, trivial⟩
   | some o =>
     by_cases hcells:∃c e f,o=.cells c e f
     .obtain⟨c,e,f,rfl⟩:=hcells;exact ⟨.halt (.stuck "getObj: a row of cells") w, #[], by simp only [Sem.runT, hr, ka4], .refl hw, trivial⟩
     .obtain⟨r',new,h1,h2,h3⟩:=ih o (h.2 o (hw _ _ h.1 hr)) w (es.push ⟨.obj r,false,o.isChan⟩) hw hf;have hrun:∀(es₂:Array Event),(Sem.getObj r k).runT P w es₂=(k o).runT P w (es₂.push ⟨.obj r,false,o.isChan⟩):=λes₂=>by
        simp only [Sem.runT,hr];split
        .rename_i heq;cases heq;exact absurd ⟨_,_,_,rfl⟩ hcells
        .rename_i heq;cases heq;rfl
        .rename_i heq;cases heq
      exact⟨r',#[⟨.obj r,false,o.isChan⟩]++new,by rw [hrun es,h1];simp only [kcw,kc6],h2.more (ya5 ⟨h.1,kaf (kad.1 hr).1 h2.size⟩),h3⟩
 | setObj r o k ih =>
   intro h w es hw hf;cases hr:w.heap[r]? with
   | none => exact ⟨.halt (.stuck "setObj: no such block") w, #[], by simp only [Sem.runT, hr, ka4], .refl hw, trivial⟩
   | some u =>
     by_cases hcells:∃c e f,u=.cells c e f
     .obtain⟨c,e,f,rfl⟩:=hcells;exact ⟨.halt (.stuck "setObj: a row of cells") w, #[], by simp only [Sem.runT, hr, ka4], .refl hw, trivial⟩
     .have hR:=ztt hw h.1 h.2.1 hr o.isChan;obtain⟨r',new,h1,h2,h3⟩:=ih h.2.2 { w with heap:=w.heap.setIfInBounds r o } (es.push ⟨.obj r,true,o.isChan⟩) hR.near (λr hr2=>hf r (kak hR.size hr2));have hrun:∀(es₂:Array Event),(Sem.setObj r o k).runT P w es₂=k.runT P { w with heap:=w.heap.setIfInBounds r o } (es₂.push ⟨.obj r,true,o.isChan⟩):=λes₂=>by
        simp only [Sem.runT,hr];split
        .rename_i heq;cases heq;exact absurd ⟨_,_,_,rfl⟩ hcells
        .rfl
        .rename_i heq;cases heq
      exact⟨r',#[⟨.obj r,true,o.isChan⟩]++new,by rw [hrun es,h1];simp only [kcw,kc6],hR.trans h2,h3⟩
 | choose q k ih =>
   intro h w es hw hf;cases hq:q.forced with
   | true =>obtain⟨r',new,h1,h2,h3⟩:=ih 0 (h _) w es hw hf;exact⟨r',new,by simp only [Sem.runT,hq,if_true,h1],h2,h3⟩
   | false =>obtain⟨r',new,h1,h2,h3⟩:=ih (q.cut (w.tape w.drawn q)) (h _) { w with drawn:=w.drawn+1 } es hw hf;exact⟨r',new,by simp only [Sem.runT,hq,kbd,if_false,h1],⟨h2.near,h2.size,h2.tape,h2.os,h2.output,h2.evs,h2.frame⟩,h3⟩
 | sys c k ih=>intro h;exact h.elim
 | program k ih =>intro h w es hw hf;obtain⟨r',new,h1,h2,h3⟩:=ih _ h w es hw hf;exact⟨r',new,by simp only [Sem.runT,h1],h2,h3⟩
 | mark m k ih =>intro h w es hw hf;obtain⟨r',new,h1,h2,h3⟩:=ih h.2 w (es.push ⟨.mark m,false,true⟩) hw hf;exact⟨r',#[⟨.mark m,false,true⟩]++new,by simp only [Sem.runT,h1];simp only [kcw,kc6],h2.more (z58 h.1),h3⟩
end
section
variable{A:Nat->Prop}{P:Program}
theorem zeq{α:Type}{Q:α->Prop}{a:α}(h:Q a):Ft A P Q (pure a):=h
theorem zce{α:Type}{Q:α->Prop}(a:α):Ft A P Q (pure a)↔Q a:=Iff.rfl
theorem zf4{Q:Program->Prop}(h:Q P):Ft A P Q program:=h
theorem z1n{Q:Value->Prop}{a:Addr}{m:Mode}(ha:A a.block)(h:∀v,Q v):Ft A P Q (load a m):=⟨ha,h⟩
theorem z5r{Q:Unit->Prop}{a:Addr}{v:Value}{m:Mode}(ha:A a.block)(h:Q ()):Ft A P Q (store a v m):=⟨ha,h⟩
theorem zgw{Q:Nat->Prop}{o:Obj}(ho:Near o)(h:∀r,A r->Q r):Ft A P Q (newObj o):=⟨ho,h⟩
theorem zff{Q:Nat->Prop}{q:Question}(h:∀n,Q n):Ft A P Q (choose q):=h
theorem zwd{Q:Option (TypeId×Nat)->Prop}{r:Nat}(h:∀n,Q n):Ft A P Q (shape r):=h
theorem zmt{Q:Bool->Prop}{a:Addr}(h:∀n,Q n):Ft A P Q (frozen a):=h
theorem zc4{Q:Obj->Prop}{r:Nat}(hr:A r)(h:∀o,Near o->Q o):Ft A P Q (getObj r):=⟨hr,h⟩
theorem zec{Q:Unit->Prop}{r:Nat}{o:Obj}(hr:A r)(ho:Near o)(h:Q ()):Ft A P Q (setObj r o):=⟨hr,ho,h⟩
theorem yay{Q:Unit->Prop}{m:Mark}(hm:zs5 m)(h:Q ()):Ft A P Q (mark m):=⟨hm,h⟩
theorem zjv{Q:Unit->Prop}{n:Nat}(h:Q ()):Ft A P Q (askRoom n):=by
 unfold askRoom;split
 .exact yay trivial h
 .exact h
theorem zcd{Q:TypeInfo->Prop}(t:TypeId)(h:∀i,P.info? t=some i->Q i):Ft A P Q (typeInfo t):=by
 unfold typeInfo;rw [ft_bind];show Ft A P Q _;cases hi:P.info? t with
 | none=>trivial
 | some i=>exact h i hi
theorem zai{Q:TypeDesc->Prop}(t:TypeId)(h:∀d,P.underlying t=some d->Q d):Ft A P Q (underlying t):=by
 unfold underlying;rw [ft_bind];show Ft A P Q _;cases hi:P.underlying t with
 | none=>trivial
 | some i=>exact h i hi
theorem zbm{Q:Nat->Prop}(t:TypeId)(h:∀n,Q n):Ft A P Q (sizeOf t):=by unfold sizeOf;rw [ft_bind];exact zcd t λi _=>h _
theorem zlf{Q:Bool->Prop}(t:TypeId)(h:∀b,Q b):Ft A P Q (isAgg t):=by unfold isAgg;rw [ft_bind];refine zai t λd _=>?_;split<;>exact h _
theorem za5{Q:Value->Prop}(t:TypeId)(h:∀v,Q v):Ft A P Q (zeroValue t):=by
 unfold zeroValue;rw [ft_bind];refine zcd t λi hi=>?_;split
 .exact h _
 .exact trivial
theorem zkt{Q:Array Value->Prop}(a:Addr)(ha:A a.block)(n:Nat):∀(i:Nat) (acc:Array Value),(∀vs,Q vs)->Ft A P Q (loadCellsFrom a i n acc):=by
 induction n with
 | zero=>intro i acc h;exact h acc
 | succ n ih =>intro i acc h;unfold loadCellsFrom;rw [ft_bind];exact z1n (a:=a.add i) (by rw [zb1];exact ha) λv=>ih _ _ h
theorem zkh{Q:Array Value->Prop}(a:Addr)(ha:A a.block)(n:Nat)(h:∀vs,Q vs):Ft A P Q (loadCells a n):=zkt a ha n 0 #[] h
theorem zc3{Q:Unit->Prop}(a:Addr)(ha:A a.block)(vs:List Value):∀(i:Nat),Q ()->Ft A P Q (storeCells a vs i):=by
 induction vs with
 | nil=>intro i h;exact h
 | cons v vs ih =>intro i h;unfold storeCells;rw [ft_bind];exact z5r (a:=a.add i) (by rw [zb1];exact ha) (ih _ h)
theorem zol{Q:Value->Prop}(t:TypeId)(a:Addr)(ha:A a.block)(h:∀v,Q v):Ft A P Q (loadVar t a):=by
 unfold loadVar;rw [ft_bind];refine zlf t λb=>?_;split
 .rw [ft_bind];refine zbm t λn=>?_;rw [ft_bind];exact zkh a ha n λvs=>h _
 .exact z1n ha h
theorem zue{Q:Unit->Prop}(t:TypeId)(a:Addr)(v:Value)(ha:A a.block)(h:Q ()):Ft A P Q (storeVar t a v):=by
 unfold storeVar;rw [ft_bind];refine zbm t λn=>?_;dsimp only;split
 .rw [ft_bind];exact trivial
 .exact zc3 a ha _ 0 h
theorem zfe{Q:Addr->Prop}(e:TypeId)(cs:Array Value)(h:∀a:Addr,A a.block->Q a):Ft A P Q (newRow e cs):=by unfold newRow;rw [ft_bind];exact zgw trivial λr hr=>h _ hr
theorem zr9{Q:Addr->Prop}(t:TypeId)(v:Value)(h:∀a:Addr,A a.block->Q a):Ft A P Q (newVar t v):=zfe t _ h
theorem zaq{α:Type}{Q:α->Prop}(e:RuntimeError)(he:match e with|.typeAssertion _ _ _ _|.panicNil=>False|_=>True):Ft A P Q (runtimePanic e):=by unfold runtimePanic;rw [ft_bind];show Ft A P _ _;cases e<;>first|exact trivial|exact False.elim he
theorem zdr{α:Type}{Q:α->Prop}(k:IntKind)(x y:Int)(c:BoundsCode):Ft A P Q (boundsPanic k x y c):=by
 unfold boundsPanic;dsimp only;split
 .rw [ft_bind,map_eq_pure_bind,ft_bind];exactλn=>by show Ft A P Q _;exact zaq (.bounds _ _ _ _) trivial
 .exact zaq (.bounds _ _ _ _) trivial
theorem zfg{Q:IntKind×Int->Prop}(v:Value)(h:∀k,Q k):Ft A P Q (asIntOf v):=by
 unfold asIntOf;split
 .exact h _
 .exact trivial
 .exact trivial
theorem ziy{Q:Int->Prop}(v:Value)(h:∀k,Q k):Ft A P Q (asInt v):=by unfold asInt;rw [ft_bind];exact zfg v λk=>h _
theorem zgx{Q:Bool->Prop}(v:Value)(h:∀k,Q k):Ft A P Q (asBool v):=by
 unfold asBool;split
 .exact h _
 .exact trivial
def PtA(A:Nat->Prop)(v:Value):Prop:=∀a,v=.pointer (some a)->A a.block
def SlA(A:Nat->Prop)(v:Value):Prop:=∀a n c,v=.slice (some a) n c->A a.block
def MpA(A:Nat->Prop)(v:Value):Prop:=∀r,v=.map (some r)->A r
theorem zf3{Q:Addr->Prop}(v:Value)(hv:PtA A v)(h:∀a:Addr,A a.block->Q a):Ft A P Q (Instr.sureAddr v):=by
 unfold Instr.sureAddr;split
 .exact h _ (hv _ rfl)
 .exact trivial
theorem zmu{Q:Addr->Prop}(v:Value)(hv:PtA A v)(h:∀a:Addr,A a.block->Q a):Ft A P Q (asAddr v):=by
 unfold asAddr;split
 .exact h _ (hv _ rfl)
 .exact zaq _ trivial
 .exact trivial
variable{Q:Value->Prop}
theorem ydt(e:TypeId)(v:Value)(h:∀v,Q v):Ft A P Q (Instr.box e v):=by unfold Instr.box;rw [ft_bind];exact zr9 e v λa _=>h _
theorem z5w(e:TypeId)(h:∀v,Q v):Ft A P Q (Instr.alloc e true (.tuple #[])):=by unfold Instr.alloc;rw [ft_bind];refine za5 e λz=>?_;rw [ft_bind];exact zr9 e z λa _=>h _
theorem zmr{α β:Type}(f:α->Sem β):∀(l:List α),(∀a,Ft A P (λ_=>True) (f a))->Ft A P (λ_=>True) (l.mapM f)
 | [],_=>by rw [List.mapM_nil];trivial
 | a::l,h=>by rw [kd3,ft_bind];refine ft_mono (h a) λx _=>?_;rw [ft_bind];exact ft_mono (zmr f l h) λ_ _=>trivial
theorem yaz{α β:Type}(f:α->Sem β)(l:Array α)(h:∀a,Ft A P (λ_=>True) (f a)):Ft A P (λ_=>True) (l.mapM f):=by rw [kdj,map_eq_pure_bind,ft_bind];exact ft_mono (zmr f _ h) λ_ _=>trivial
theorem z5v(t:TypeId)(parts:Array (Nat×Value))(h:∀v,Q v):Ft A P Q (Instr.build t parts):=by
 unfold Instr.build;rw [ft_bind];refine za5 t λz=>?_;dsimp only;rw [ft_bind];refine zai t λd _=>?_;split
 .rw [ft_bind];refine ft_mono (yaz _ _ λf=>by rw [ft_bind];exact zbm _ λ_=>trivial) λplaces _=>?_;split
  .exact h _
  .exact trivial
 .rw [ft_bind];refine zbm _ λs=>?_;split
  .exact h _
  .exact trivial
 .exact trivial
theorem zp6(t:TypeId)(len:Nat)(parts:Array (Nat×Value))(h:∀v,Q v):Ft A P Q (Instr.buildSlice t len parts):=by
 unfold Instr.buildSlice;rw [ft_bind];refine zai t λd _=>?_;split
 .rw [ft_bind];refine zbm _ λs=>?_;dsimp only;split
  .rw [ft_bind];exact trivial
  .have fin:∀(e:TypeId) (z:Array Value),Ft A P Q (match Instr.fill (λi=>some (i*s,s)) ((Array.range (len*s)).map (z[· % z.size]!)) parts.toList with
      | some cells=>do pure (.slice (some (<-newRow e cells)) len len)
      | x => stuck "buildSlice: a part of the wrong size") := by
     intro e z
     split
     .rw [ft_bind];exact zfe _ _ λa ha=>h _
     .exact trivial
   split
   .exact fin _ #[]
   .rw [ft_bind];refine za5 _ λz=>?_;exact fin _ _
 .exact trivial
theorem z1m(t:TypeId)(a:Value)(ha:PtA A a)(h:∀v,Q v):Ft A P Q (Instr.loadAt t a):=by unfold Instr.loadAt;rw [ft_bind];exact zf3 _ ha λa ha=>zol t a ha h
theorem zyb{Q:Unit->Prop}(t:TypeId)(a v:Value)(ha:PtA A a)(h:Q ()):Ft A P Q (Instr.storeAt t a v):=by unfold Instr.storeAt;rw [ft_bind];exact zf3 _ ha λa ha=>zue t a v ha h
theorem fh{G:Prop}(x:G:=by(repeat' (first|exact trivial|assumption|(rw [ft_bind])|(with_reducible refine zai _ λ_ _=>?_)|(with_reducible refine zcd _ λ_ _=>?_)|(with_reducible refine zbm _ λ_=>?_)|(with_reducible refine zlf _ λ_=>?_)|(with_reducible refine za5 _ λ_=>?_)|(with_reducible refine zfg _ λ_=>?_)|(with_reducible refine ziy _ λ_=>?_)|(with_reducible refine zgx _ λ_=>?_)|(with_reducible refine ft_asAgg _ λ_=>?_)|(with_reducible refine zf3 _ oq λ_ _=>?_)|(with_reducible refine zmu _ oq λ_ _=>?_)|(with_reducible refine zhs _ _ _ _ _ _ λ_=>?_)|(with_reducible refine ft_byteOf _ oq λ_=>?_)|(with_reducible refine ft_fieldPlace _ _ oq λ_ _=>?_)|(with_reducible refine ft_noView _ oq ?_)|(with_reducible refine zwd λ_=>?_)|(with_reducible refine zmt λ_=>?_)|(with_reducible refine zff λ_=>?_)|(with_reducible refine zf4 ?_)|(with_reducible refine zdr _ _ _ _)|(with_reducible refine zaq _ trivial)|(with_reducible refine ft_unsupported trivial)|(with_reducible refine ft_stuckQ _)|(with_reducible refine zeq ?_)|dsimp only|split));all_goals exact h _):G:=x
theorem fA{G:Prop}(x:G:=by(repeat' (first|exact trivial|assumption|(rw [ft_bind])|(with_reducible refine zai _ λ_ _=>?_)|(with_reducible refine zcd _ λ_ _=>?_)|(with_reducible refine zbm _ λ_=>?_)|(with_reducible refine zlf _ λ_=>?_)|(with_reducible refine za5 _ λ_=>?_)|(with_reducible refine zfg _ λ_=>?_)|(with_reducible refine ziy _ λ_=>?_)|(with_reducible refine zgx _ λ_=>?_)|(with_reducible refine ft_asAgg _ λ_=>?_)|(with_reducible refine zf3 _ oq λ_ _=>?_)|(with_reducible refine zmu _ oq λ_ _=>?_)|(with_reducible refine zhs _ _ _ _ _ _ λ_=>?_)|(with_reducible refine ft_byteOf _ oq λ_=>?_)|(with_reducible refine ft_fieldPlace _ _ oq λ_ _=>?_)|(with_reducible refine ft_noView _ oq ?_)|(with_reducible refine zwd λ_=>?_)|(with_reducible refine zmt λ_=>?_)|(with_reducible refine zff λ_=>?_)|(with_reducible refine zf4 ?_)|(with_reducible refine zdr _ _ _ _)|(with_reducible refine zaq _ trivial)|(with_reducible refine ft_unsupported trivial)|(with_reducible refine ft_stuckQ _)|(with_reducible refine zeq ?_)|dsimp only|split))):G:=x
theorem zp4{Q:Nat->Prop}(v:Value)(h:∀n,Q n):Ft A P Q (Builtin.lenOf v):=by unfold Builtin.lenOf;exact fh
theorem zc5{Q:Array Value->Prop}(s n:Nat)(v:Value)(hv:SlA A v)(h:∀vs,Q vs):Ft A P Q (Builtin.firstCells s n v):=by
 unfold Builtin.firstCells;split
 .exact zkh _ (hv _ _ _ rfl) _ h
 .exact h _
 .exact h _
 .exact trivial
theorem zp5{Q:Bool->Prop}(a:Addr)(n:Nat)(h:∀b,Q b):Ft A P Q (Builtin.holdsCells a n):=by unfold Builtin.holdsCells;exact fh
theorem zmp{Q:Bool->Prop}(s l n:Nat)(b:Option Addr)(x:Value)(h:∀b,Q b):Ft A P Q (Builtin.mayShare s l n b x):=by
 unfold Builtin.mayShare;repeat' (first|exact trivial|(rw [ft_bind])|(with_reducible refine zp5 _ _ λ_=>?_)|(with_reducible refine zmt λ_=>?_)|(with_reducible refine zeq ?_)|dsimp only|split)
 all_goals exact h _
theorem zr8{Q:Unit->Prop}(h:Q ()):Ft A P Q (mark .noRoom):=⟨trivial,h⟩
theorem z1q(ts:Array TypeId)(ty:TypeId)(s x:Value)(hs:SlA A s)(hx:SlA A x)(hT:∀t k,ts[1]?=some t->P.underlying t≠some (.int k))(h:∀v,Q v):Ft A P Q (Builtin.append_ ts ty #[s,x]):=by
 unfold Builtin.append_;split
 .rename_i t0 s' x' heq;simp only [Prod.mk.injEq] at heq;obtain⟨_,e1,e2⟩:=heq;have e1:s=s':=oa e1
  have e2:x=x':=oa e2
  subst e1 e2;rw [ft_bind];refine zai _ λd _=>?_;split
  .rename_i elem _;split
   .rename_i base sLen sCap;have hb:∀a,base=some a->A a.block:=λa e=>hs a sLen sCap (by rw [e]);rw [ft_bind];refine zbm _ λsize=>?_;dsimp only;split
    .rename_i xt hxt;rw [ft_bind];refine zai _ λd hd=>?_;rw [ft_bind,zce];split
     .rename_i k;exact absurd hd (hT _ k hxt)
     .simp only [kbd,if_false];rw [ft_bind];refine zp4 _ λn=>?_;simp only [Bool.not_false,if_true,false_or]
      repeat' (first|exact trivial|(rw [ft_bind])|(with_reducible refine zc5 _ _ _ hs λ_=>?_)|(with_reducible refine zc5 _ _ _ hx λ_=>?_)|(with_reducible refine zff λ_=>?_)|(with_reducible refine zjv ?_)|(with_reducible refine zcd _ λ_ _=>?_)|(with_reducible refine za5 _ λ_=>?_)|(with_reducible refine zfe _ _ λ_ _=>?_)|(with_reducible refine zmp _ _ _ _ _ λ_=>?_)|(with_reducible refine zr8 ?_)|(with_reducible refine ft_unsupported trivial)|(with_reducible refine zaq _ trivial)|(with_reducible refine zeq ?_)|dsimp only|split)
      all_goals first
       | exact h _
       | (refine zc3 _ (by rw [zb1];first|exact hb _ rfl|exact hb _ (by assumption)) _ 0 (h _))
    .rw [ft_bind,zce];simp only [kbd,if_false];rw [ft_bind];refine zp4 _ λn=>?_;simp only [Bool.not_false,if_true,false_or]
     repeat' (first|exact trivial|(rw [ft_bind])|(with_reducible refine zc5 _ _ _ hs λ_=>?_)|(with_reducible refine zc5 _ _ _ hx λ_=>?_)|(with_reducible refine zff λ_=>?_)|(with_reducible refine zjv ?_)|(with_reducible refine zcd _ λ_ _=>?_)|(with_reducible refine za5 _ λ_=>?_)|(with_reducible refine zfe _ _ λ_ _=>?_)|(with_reducible refine zmp _ _ _ _ _ λ_=>?_)|(with_reducible refine zr8 ?_)|(with_reducible refine ft_unsupported trivial)|(with_reducible refine zaq _ trivial)|(with_reducible refine zeq ?_)|dsimp only|split)
     all_goals first
      | exact h _
      | (refine zc3 _ (by rw [zb1];first|exact hb _ rfl|exact hb _ (by assumption)) _ 0 (h _))
   .exact trivial
  .exact trivial
 .exact trivial
end
section
variable{A:Nat->Prop}{P:Program}
theorem zr7{α:Type}{Q:α->Prop}{e:Sem α}(h:Ft A P (λ_=>True) e)(hq:∀a,Q a):Ft A P Q e:=ft_mono h λa _=>hq a
theorem zf5{α β:Type}(f:α->β->Sem (ForInStep β)):∀(l:List α) (b:β),(∀a b,Ft A P (λ_=>True) (f a b))->Ft A P (λ_=>True) (forIn l b f)
 | [],b,_=>by rw [List.forIn_nil];exact trivial
 | a::l,b,h=>by
   rw [List.forIn_cons,ft_bind];refine ft_mono (h a b) λr _=>?_;cases r with
   | done b=>exact trivial
   | yield b=>exact zf5 f l b h
theorem ze0{α β:Type}(f:α->β->Sem (ForInStep β))(l:Array α)(b:β)(h:∀a b,Ft A P (λ_=>True) (f a b)):Ft A P (λ_=>True) (forIn l b f):=by rw [<-Array.forIn_toList];exact zf5 f _ _ h
theorem zez{β:Type}(f:Nat->β->Sem (ForInStep β))(r:Std.Legacy.Range)(b:β)(h:∀a b,Ft A P (λ_=>True) (f a b)):Ft A P (λ_=>True) (forIn r b f):=by rw [Std.Legacy.Range.forIn_eq_forIn_range'];exact zf5 f _ _ h
theorem za3.ag{cs:Array Value}(h:za3 (.agg cs)):∀v∈cs,za3 v:=by cases h with|agg _ h=>exact h
theorem zdq{Q:Value->Prop}(t:TypeId)(cs:Array Value)(off:Nat)(hc:∀v∈cs,za3 v)(h:∀v,za3 v->Q v):Ft A P Q (part t cs off):=by
 unfold part;rw [ft_bind];refine zlf t λb=>?_;split
 .rw [ft_bind];refine zbm t λn=>?_;exact h _ (.agg _ λx hx=>hc x (zt3 hx))
 .split
  .rename_i v hv;exact h v (hc v (kbl hv))
  .exact trivial
theorem zju:∀(d:Nat) (t:TypeId) (x y:Value),za3 x->za3 y->Ft A P (λ_=>True) (Op.equalIn d t x y)
 | 0,_,_,_,_,_=>trivial
 | d+1,t,x,y,hx,hy=>by
   have ih:=zju d;unfold Op.equalIn;rw [ft_bind];refine zai _ λdd _=>?_;split;all_goals try exact trivial
   all_goals try (cases hx;done)
   all_goals try (cases hy;done)
   all_goals try (split<;>exact trivial)
   .rw [ft_bind];refine zf4 ?_;split
    .rw [ft_bind];exact trivial
    .rw [ft_bind];refine zr7 (ze0 _ _ _ λf b=>?_) λ_=>?_
     .repeat' (first|exact trivial|(rw [ft_bind])|(with_reducible refine zdq _ _ _ hx.ag λ_ _=>?_)|(with_reducible refine zdq _ _ _ hy.ag λ_ _=>?_)|(with_reducible refine zr7 (ih _ _ _ oq oq) λ_=>?_)|dsimp only|split)
     .repeat' (first|exact trivial|dsimp only|split)
   .rw [ft_bind];refine zbm _ λn=>?_;rw [ft_bind];refine zr7 (zez _ _ _ λf b=>?_) λ_=>?_
    .repeat' (first|exact trivial|(rw [ft_bind])|(with_reducible refine zdq _ _ _ hx.ag λ_ _=>?_)|(with_reducible refine zdq _ _ _ hy.ag λ_ _=>?_)|(with_reducible refine zr7 (ih _ _ _ oq oq) λ_=>?_)|dsimp only|split)
    .repeat' (first|exact trivial|dsimp only|split)
theorem zki:∀(d:Nat) (t:TypeId) (x y:Value),za3 x->za3 y->Ft A P (λ_=>True) (Op.eqGuardIn d t x y)
 | 0,_,_,_,_,_=>trivial
 | d+1,t,x,y,hx,hy=>by
   have ih:=zki d;unfold Op.eqGuardIn;rw [ft_bind];refine zai _ λdd _=>?_;split;all_goals try exact trivial
   .rw [ft_bind];refine zr7 (ze0 _ _ _ λf b=>?_) λ_=>?_
    .repeat' (first|exact trivial|(rw [ft_bind])|(with_reducible refine zdq _ _ _ hx.ag λ_ _=>?_)|(with_reducible refine zdq _ _ _ hy.ag λ_ _=>?_)|(with_reducible refine zr7 (ih _ _ _ oq oq) λ_=>?_)|dsimp only|split)
    .repeat' (first|exact trivial|dsimp only|split)
   .rw [ft_bind];refine zbm _ λn=>?_;rw [ft_bind];refine zr7 (zez _ _ _ λf b=>?_) λ_=>?_
    .repeat' (first|exact trivial|(rw [ft_bind])|(with_reducible refine zdq _ _ _ hx.ag λ_ _=>?_)|(with_reducible refine zdq _ _ _ hy.ag λ_ _=>?_)|(with_reducible refine zr7 (ih _ _ _ oq oq) λ_=>?_)|dsimp only|split)
    .repeat' (first|exact trivial|dsimp only|split)
theorem zoo{Q:Unit->Prop}(op:BinOp)(t:TypeId)(x y:Operand)(a b:Value)(ha:za3 a)(hb:za3 b)(h:Q ()):Ft A P Q (eqGuard op t x y a b):=by
 cases op;all_goals try exact h
 all_goals
  cases ha<;>cases hb
  all_goals try exact h
  all_goals
   unfold eqGuard;simp only [Bool.not_true,kbd,if_false]
   repeat' (first|exact trivial|exact h|(rw [ft_bind])|(with_reducible refine zf4 ?_)|(with_reducible refine zr7 (zki _ _ _ _ (.agg _ oq) (.agg _ oq)) λ_=>?_)|dsimp only|split)
theorem zh9:∀(d:Nat) (e:Bool) (t:TypeId) (v:Value),za3 v->Ft A P (λ_=>True) (Instr.checkKey e d t v)
 | 0,_,_,_,_=>trivial
 | d+1,e,t,v,hv=>by
   have ih:=zh9 d;unfold Instr.checkKey;rw [ft_bind];refine zai _ λdd _=>?_;split;all_goals try exact trivial
   all_goals try (cases hv;done)
   .repeat' (first|exact trivial|(rw [ft_bind])|(with_reducible refine zbm _ λ_=>?_)|(refine zr7 (zez _ _ _ λf b=>?_) λ_=>?_)|(with_reducible refine zdq _ _ _ hv.ag λ_ _=>?_)|(with_reducible refine zr7 (ih _ _ _ oq) λ_=>?_)|dsimp only|split)
   .repeat' (first|exact trivial|(rw [ft_bind])|(with_reducible refine zbm _ λ_=>?_)|(refine zr7 (ze0 _ _ _ λf b=>?_) λ_=>?_)|(with_reducible refine zdq _ _ _ hv.ag λ_ _=>?_)|(with_reducible refine zr7 (ih _ _ _ oq) λ_=>?_)|dsimp only|split)
theorem zix(t:TypeId)(k:Value)(hk:za3 k){Q:Option (Nat×Value)->Prop}(h:∀r,Q r):∀(es:List MapEntry) (i:Nat),(∀e∈es,za3 e.key)->Ft A P Q (Instr.findAsking t k es i)
 | [],_,_=>h _
 | e::es,i,he=>by
   unfold Instr.findAsking;rw [ft_bind];refine zr7 (zju _ _ _ _ hk (he e od)) λb=>?_;split
   .exact h _
   .exact zix t k hk h es (i+1) (λx hx=>he x (by simp [hx]))
theorem zon(t:TypeId)(k:Value)(hk:za3 k)(es:List MapEntry)(he:∀e∈es,za3 e.key){Q:Option (Nat×Value)->Prop}(h:∀r,Q r):Ft A P Q (Instr.findKey t k es):=by
 unfold Instr.findKey;rw [ft_bind];refine zai _ λd _=>?_;split
 .exact h _
 .exact zix t k hk h es 0 he
theorem zrz{es:Array MapEntry}(h:∀e∈es,za3 e.key):∀e∈es.toList,za3 e.key:=λe he=>h e (oa he)
theorem z1l{Q:Value->Prop}(t:TypeId)(x i:Value)(ok:Bool)(hx:MpA A x)(hi:za3 i)(h:∀v,Q v):Ft A P Q (Instr.lookup t x i ok):=by
 unfold Instr.lookup;rw [ft_bind];refine zai _ λd _=>?_;split
 .rename_i key elem _;have tail:∀(es:Array MapEntry) (K:Option (Nat×Value)->Prop),(∀e∈es,za3 e.key)->(∀r,K r)->Ft A P (λ_=>Ft A P K (Instr.findKey key i es.toList)) (Instr.checkKey es.isEmpty 10000 key i):=λes K he hk =>
    zr7 (zh9 _ _ _ _ hi) λ_=>zon _ _ hi _ (zrz he) hk
  have fin:∀r:Option (Nat×Value),Ft A P (λa=>Q (if ok=true then .tuple #[a.1,.bool a.2] else a.1)) (match r with|some (_,v)=>pure (v,true)|none=>do pure (<-zeroValue elem,false)):=λr=>by
   cases r with
   | none=>simp only [ft_bind,zce];exact za5 _ λz=>h _
   | some p=>exact h _
  dsimp only;split
  .simp only [ft_bind,zce];refine tail #[] _ (by intro e he;simp at he) λr=>?_;cases r with
   | none=>simp only [ft_bind,zce];exact za5 _ λz=>h _
   | some p=>exact h _
  .rw [ft_bind];refine zc4 (hx _ rfl) λo ho=>?_;split
   .simp only [ft_bind,zce];refine tail _ _ ho λr=>?_;cases r with
    | none=>simp only [ft_bind,zce];exact za5 _ λz=>h _
    | some p=>exact h _
   .exact trivial
  .exact trivial
 .exact trivial
theorem zuf(a b:Value){Q:Value->Prop}(ha:Q a)(hb:Q b):Ft A P Q (Instr.keyThatStays a b):=by
 unfold Instr.keyThatStays;split
 .exact hb
 .rw [ft_bind];refine zff λn=>?_;rw [zce];split<;>assumption
theorem zxu{es:Array MapEntry}(h:∀e∈es,za3 e.key){k v:Value}{b:Nat}(hk:za3 k):∀e∈es.push { key:=k,val:=v,born:=b },za3 e.key:=by
 intro e he;rcases Array.mem_push.1 he with he|rfl
 .exact h e he
 .exact hk
theorem zkc{es:Array MapEntry}(h:∀e∈es,za3 e.key)(i:Nat)(f:MapEntry->MapEntry)(hf:∀e,za3 e.key->za3 (f e).key):∀e∈es.modify i f,za3 e.key:=by
 intro e he;obtain⟨k,hk,rfl⟩:=kcs.1 he;rw [Array.getElem_modify];split
 .exact hf _ (h _ (Array.getElem_mem _))
 .exact h _ (Array.getElem_mem _)
theorem z41{es:Array MapEntry}(h:∀e∈es,za3 e.key)(i:Nat){k:Value}(hk:za3 k):za3 (((es[i]?).map (·.key)).getD k):=by
 cases hi:es[i]? with
 | none=>exact hk
 | some e=>exact h e (kbl hi)
theorem zsa{Q:Unit->Prop}(t:TypeId)(m k v:Value)(hm:MpA A m)(hk:za3 k)(h:Q ()):Ft A P Q (Instr.mapUpdate t m k v):=by
 unfold Instr.mapUpdate;rw [ft_bind];refine zai _ λd _=>?_;split
 .split
  .exact zaq _ trivial
  .rw [ft_bind];refine zc4 (hm _ rfl) λo ho=>?_;split
   .rw [ft_bind];refine zr7 (zh9 _ _ _ _ hk) λ_=>?_;rw [ft_bind];refine zon _ _ hk _ (zrz ho) λr=>?_;cases r with
    | none=>exact zec (hm _ rfl) (zxu ho hk) h
    | some p =>
      obtain⟨i,v'⟩:=p;dsimp only;rw [ft_bind];refine zuf _ _ ?_ ?_
      .exact zec (hm _ rfl) (zkc ho i _ λe he=>z41 ho i hk) h
      .exact zec (hm _ rfl) (zkc ho i _ λe he=>hk) h
   .exact trivial
  .exact trivial
 .exact trivial
end
section
variable{A:Nat->Prop}{P:Program}{Q:Value->Prop}
theorem zms(op:BinOp)(k:IntKind)(a b:Int)(h:∀v,Q v):Ft A P Q (Op.intArith op k a b):=by unfold Op.intArith;exact fh
theorem z1o(op:BinOp)(k:IntKind)(a b:Int)(h:∀v,Q v):Ft A P Q (Op.intDiv op k a b):=by unfold Op.intDiv;exact fh
theorem zom(op:BinOp)(k:IntKind)(a b:Int)(h:∀v,Q v):Ft A P Q (Op.intBits op k a b):=by unfold Op.intBits;exact fh
theorem z1p(op:BinOp)(a b:Int)(h:∀v,Q v):Ft A P Q (Op.intCmp op a b):=by unfold Op.intCmp;exact fh
theorem z5t(op:BinOp)(k:IntKind)(a:Int)(k':IntKind)(b:Int)(h:∀v,Q v):Ft A P Q (Op.shift op k a k' b):=by unfold Op.shift;exact fh
theorem zh8(op:BinOp)(a b:ByteArray)(h:∀v,Q v):Ft A P Q (Op.stringOp op a b):=by unfold Op.stringOp;exact fh
theorem z5q(op:UnOp)(x:Value)(hx:za3 x)(h:∀v,Q v):Ft A P Q (Op.unary op x):=by unfold Op.unary;split;all_goals first|exact trivial|exact h _|exact zms _ _ _ _ h|exact zom _ _ _ _ h|cases hx
theorem zwe(op:BinOp)(t:TypeId)(x y:Value)(hx:za3 x)(hy:za3 y)(h:∀v,Q v):Ft A P Q (binOp op t x y):=by
 unfold binOp;split;all_goals try exact trivial
 all_goals try (cases hx;done)
 all_goals try (cases hy;done)
 all_goals try exact z5t _ _ _ _ _ h
 all_goals try exact zh8 _ _ _ h
 all_goals try (rw [ft_bind];exact zr7 (zju _ _ _ _ hx hy) λ_=>h _)
 all_goals
  split
  all_goals try exact trivial
  all_goals try (split<;>first|exact trivial|exact zms _ _ _ _ h|exact z1o _ _ _ _ h|exact zom _ _ _ _ h|exact z1p _ _ _ h)
theorem zyc(t:TypeId)(r:Option Value)(h:∀v,Q v):Ft A P Q (Instr.makeMap t r):=by
 have fin:Ft A P Q (do pure (.map (some (<-newObj (.map #[] 0))))):=by rw [ft_bind];exact zgw (by intro e he;simp at he) λr hr=>h _
 unfold Instr.makeMap;dsimp only;split
 .repeat' (first|exact trivial|exact fin|(rw [ft_bind])|(with_reducible refine zai _ λ_ _=>?_)|(with_reducible refine ziy _ λ_=>?_)|dsimp only|split)
 .exact fin
theorem zyd(x:Value)(i:Nat)(h:∀v,Q v):Ft A P Q (Instr.extract x i):=by
 unfold Instr.extract;split
 .split
  .exact h _
  .exact trivial
 .exact trivial
theorem zp3{Q:Nat->Prop}(x:Value)(y:Nat)(c:BoundsCode)(h:∀n,Q n):Ft A P Q (Instr.sliceBound x y c):=by unfold Instr.sliceBound;exact fh
theorem zhs{Q:Nat×Nat×Nat->Prop}(b:Bool)(len cap:Nat)(lo hi mx:Option Value)(h:∀n,Q n):Ft A P Q (Instr.sliceBounds b len cap lo hi mx):=by
 unfold Instr.sliceBounds;repeat' (first|exact trivial|(rw [ft_bind])|(with_reducible refine zp3 _ _ _ λ_=>?_)|(with_reducible refine ft_stuckQ _)|(with_reducible refine zeq ?_)|dsimp only|split)
 all_goals exact h _
theorem z5s(t:TypeId)(x:Value)(lo hi mx:Option Value)(hx:PtA A x)(h:∀v,Q v):Ft A P Q (Instr.slice t x lo hi mx):=by unfold Instr.slice;exact fh
theorem zjt(t:TypeId)(x:Value)(lo hi mx:Option Value)(hx:PtA A x)(h:∀v,Q v):Ft A P Q (Instr.sliceAt t x lo hi mx):=by
 unfold Instr.sliceAt;rw [ft_bind];refine zai t λd _=>?_;split
 .exact fh
 .exact z5s t x lo hi mx hx h
theorem z77(ts:Array TypeId)(ty:TypeId)(x:Value)(hx:MpA A x)(hc:∀c,x≠.chan c)(h:∀v,Q v):Ft A P Q (Builtin.len_ ts ty #[x]):=by
 unfold Builtin.len_;split
 .rename_i t0 x' heq;simp only [Prod.mk.injEq] at heq;obtain⟨_,e1⟩:=heq;have e1:x=x':=oa e1
  subst e1;rw [ft_bind];refine zai _ λd _=>?_;split;all_goals try exact h _
  all_goals try exact trivial
  .exact fh
  .rw [ft_bind];refine zc4 (hx _ rfl) λo ho=>?_;split
   .exact h _
   .exact trivial
  .exact absurd rfl (hc _)
 .exact trivial
theorem zmq(f:Value->Value->Sem Value)(hf:∀a b,za3 a->za3 b->Ft A P za3 (f a b)):∀(l:List Value) (a:Value),za3 a->(∀x∈l,za3 x)->Ft A P za3 (l.foldlM f a)
 | [],a,ha,_=>by rw [List.foldlM_nil];exact ha
 | x::l,a,ha,hl=>by rw [List.foldlM_cons,ft_bind];exact ft_mono (hf a x ha (hl x od)) λb hb=>zmq f hf l b hb λy hy=>hl y (by simp [hy])
theorem yds(ts:Array TypeId)(ty:TypeId)(args:Array Value)(ha:∀v∈args,za3 v):Ft A P za3 (Builtin.max_ ts ty args):=by
 unfold Builtin.max_;split
 .exact trivial
 .rename_i x rest heq;have hin:∀y∈x::rest,za3 y:=λy hy=>ha y (by rw [<-heq] at hy;simpa using hy);refine zmq _ (λa b ha hb=>?_) _ _ (hin x od) (λy hy=>hin y (by simp [hy]));unfold Builtin.max2;split
  .exact .int _ _
  .cases ha
  .rw [ft_bind];refine zh8 _ _ _ λv=>?_;rw [ft_bind];exact zgx _ λ_=>.string _
  .exact trivial
  .exact trivial
  .exact trivial
theorem ydr(ts:Array TypeId)(ty:TypeId)(args:Array Value)(ha:∀v∈args,za3 v):Ft A P za3 (Builtin.min_ ts ty args):=by
 unfold Builtin.min_;split
 .exact trivial
 .rename_i x rest heq;have hin:∀y∈x::rest,za3 y:=λy hy=>ha y (by rw [<-heq] at hy;simpa using hy);refine zmq _ (λa b ha hb=>?_) _ _ (hin x od) (λy hy=>hin y (by simp [hy]));unfold Builtin.min2;split
  .exact .int _ _
  .cases ha
  .rw [ft_bind];refine zh8 _ _ _ λv=>?_;rw [ft_bind];exact zgx _ λ_=>.string _
  .exact trivial
  .exact trivial
  .exact trivial
theorem zye(s d:TypeId)(x:Value)(hx:∃k n,x=.int k n)(hs:∃k,P.underlying s=some (.int k))(hd:∃k,P.underlying d=some (.int k))(h:∀v,Q v):Ft A P Q (convert s d x):=by
 obtain⟨ks,hs⟩:=hs;obtain⟨kd,hd⟩:=hd;obtain⟨k,n,rfl⟩:=hx;unfold convert;rw [ft_bind];refine zai _ λa ha=>?_;rw [ft_bind];refine zai _ λb hb=>?_;rw [hs] at ha;rw [hd] at hb;obtain rfl:=kaw ha
 obtain rfl:=kaw hb;exact h _
theorem ya0(ts:Array TypeId)(ty:TypeId)(s x:Value)(hs:SlA A s)(hx:SlA A x)(h:∀v,Q v):Ft A P Q (Builtin.copy_ ts ty #[s,x]):=by
 unfold Builtin.copy_;split
 .rename_i t0 s' x' heq;simp only [Prod.mk.injEq] at heq;obtain⟨_,e1,e2⟩:=heq;have e1:s=s':=oa e1
  have e2:x=x':=oa e2
  subst e1 e2;rw [ft_bind];refine zai _ λd _=>?_;split
  .split
   .rename_i base sLen sCap;rw [ft_bind];refine zp4 _ λn=>?_;dsimp only;rw [ft_bind];refine zbm _ λsize=>?_;rw [ft_bind];refine zc5 _ _ _ hx λcs=>?_;split
    .rw [ft_bind];exact zc3 _ (hs _ _ _ rfl) _ 0 (h _)
    .exact h _
   .exact trivial
  .exact trivial
 .exact trivial
def yfj(n:Next):Prop:=(∃v,n=.value v)\/n=.skip
theorem zjc{s:Sem Value}(h:Ft A P (λ_=>True) s):Ft A P yfj (do pure (Next.value (<-s))):=by rw [ft_bind];exact ft_mono h λv _=>.inl ⟨v,rfl⟩
theorem ft_u{s:Sem Unit}(h:Ft A P (λ_=>True) s):Ft A P yfj (do s;pure .skip):=by rw [ft_bind];exact ft_mono h λ_ _=>.inr rfl
end
end Go.Kp
namespace Go.Ab
open Go Go.RowKit
inductive AV where
 | val (v:Value)
 | agg (xs:List AV)
 | tup (xs:List AV)
 | sl (wd:Nat) (xs:List (List AV))
 | own (id:Nat)
 | ptr (id off:Nat)
 | elt (wd:Nat) (xs:List (List AV)) (n off:Nat)
 | oelt (wd id n off:Nat)
 | osl (wd id lo n:Nat)
 | psl (id off n:Nat)
 | fn (f:Fn) (first cap:List AV)
 deriving Inhabited
mutual
def AV.ids:AV->List Nat
 | .val _=>[]
 | .agg xs=>zbb xs
 | .tup xs=>zbb xs
 | .sl _ _=>[]
 | .own id=>[id]
 | .ptr id _=>[id]
 | .elt _ _ _ _=>[]
 | .oelt _ id _ _=>[id]
 | .osl _ id _ _=>[id]
 | .psl id _ _=>[id]
 | .fn _ f c=>zbb f++zbb c
def zbb:List AV->List Nat
 | []=>[]
 | x::xs=>x.ids++zbb xs
end
def AV.atom:AV->Bool
 | .val v=>v.oneCell'
 | .agg _=>false
 | .tup _=>false
 | _=>true
theorem zal{i:Nat}:∀{xs:List AV},i∈zbb xs↔∃x∈xs,i∈x.ids
 | []=>by simp [zbb]
 | x::xs=>by simp [zbb,zal (xs:=xs)]
theorem zep{xs:List AV}{k:Nat}{x:AV}(h:xs[k]?=some x):∀i∈x.ids,i∈zbb xs:=λ_i hi=>zal.2 ⟨x,kag h,hi⟩
structure Env where
 imm:Nat->Prop
 mem:Nat->Nat
 buf:Nat->Value
 dfs:List Nat:=[]
inductive Rep(E:Env)(w:World):AV->Value->Prop
 | val (v:Value):Rep E w (.val v) v
 | agg (xs:List AV) (vs:List Value) (hl:xs.length=vs.length) (h:∀(i:Nat) x v,xs[i]?=some x->vs[i]?=some v->Rep E w x v):Rep E w (.agg xs) (.agg vs.toArray)
 | tup (xs:List AV) (vs:List Value) (hl:xs.length=vs.length) (h:∀(i:Nat) x v,xs[i]?=some x->vs[i]?=some v->Rep E w x v):Rep E w (.tup xs) (.tuple vs.toArray)
 | nil (wd:Nat):Rep E w (.sl wd []) (.slice none 0 0)
 | sl (wd:Nat) (xs:List (List AV)) (b o c:Nat) (val:Nat->Nat->Value) (hb:E.imm b) (hw:∀row∈xs,row.length=wd)
  (hc:∀(i:Nat) row (j:Nat) x,xs[i]?=some row->row[j]?=some x->x.ids=[]/\x.atom=true/\w.cell? ⟨b,o+i*wd+j,none⟩=some (val i j))
  (h:∀(i:Nat) row (j:Nat) x,xs[i]?=some row->row[j]?=some x->Rep E w x (val i j)) (hn:xs.length<=c):Rep E w (.sl wd xs) (.slice (some ⟨b,o,none⟩) xs.length c)
 | own (id:Nat) (h:(E.buf id).oneCell'=true):Rep E w (.own id) (E.buf id)
 | ptr (id off:Nat):Rep E w (.ptr id off) (.pointer (some ⟨E.mem id,off,none⟩))
 | elt (wd:Nat) (xs:List (List AV)) (b o n off:Nat) (val:Nat->Nat->Value) (hb:E.imm b) (hw:∀row∈xs,row.length=wd)
  (hc:∀(i:Nat) row (j:Nat) x,xs[i]?=some row->row[j]?=some x->x.ids=[]/\x.atom=true/\w.cell? ⟨b,o+i*wd+j,none⟩=some (val i j))
  (h:∀(i:Nat) row (j:Nat) x,xs[i]?=some row->row[j]?=some x->Rep E w x (val i j)):Rep E w (.elt wd xs n off) (.pointer (some ⟨b,o+n*wd+off,none⟩))
 | oelt (wd id n off g l c:Nat) (hg:E.buf id=.slice (some ⟨g,0,none⟩) l c):Rep E w (.oelt wd id n off) (.pointer (some ⟨g,n*wd+off,none⟩))
 | osl (wd id lo n g l c:Nat) (hg:E.buf id=.slice (some ⟨g,0,none⟩) l c):Rep E w (.osl wd id lo n) (.slice (some ⟨g,lo*wd,none⟩) n (c-lo))
 | psl (id off n:Nat):Rep E w (.psl id off n) (.slice (some ⟨E.mem id,off,none⟩) n n)
 | fn (f:Fn) (first cap:List AV) (vs us:List Value) (hl:first.length=vs.length) (hm:cap.length=us.length)
  (h:∀(i:Nat) x v,first[i]?=some x->vs[i]?=some v->Rep E w x v) (k:∀(i:Nat) x v,cap[i]?=some x->us[i]?=some v->Rep E w x v):Rep E w (.fn f first cap) (.func f vs.toArray us.toArray)
def yf1(E:Env)(w:World)(xs:List AV)(vs:List Value):Prop:=xs.length=vs.length/\∀(i:Nat) x v,xs[i]?=some x->vs[i]?=some v->Rep E w x v
theorem yf1.nil(E:Env)(w:World):yf1 E w [] []:=⟨rfl,λi x v h=>by simp at h⟩
theorem yf1.cons{E:Env}{w:World}{x:AV}{v:Value}{xs:List AV}{vs:List Value}(h:Rep E w x v)(k:yf1 E w xs vs):yf1 E w (x::xs) (v::vs) :=
 ⟨by simp [k.1],λi y u hy hu=>by
   cases i with
   | zero=>simp at hy hu;subst hy;subst hu;exact h
   | succ i=>exact k.2 i y u (oa hy) (oa hu)⟩
theorem yf1.inv{E:Env}{w:World}{x:AV}{xs:List AV}{vs:List Value}(h:yf1 E w (x::xs) vs):∃v us,vs=v::us/\Rep E w x v/\yf1 E w xs us:=by
 cases vs with
 | nil=>exact absurd h.1 od
 | cons v us=>exact⟨v,us,rfl,h.2 0 x v rfl rfl,by have:=h.1;simpa using this,λi y u hy hu=>h.2 (i+1) y u (oa hy) (oa hu)⟩
theorem yf1.get{E:Env}{w:World}{xs:List AV}{vs:List Value}(h:yf1 E w xs vs){i:Nat}{x:AV}(hx:xs[i]?=some x):∃v,vs[i]?=some v/\Rep E w x v:=by
 have hi:i<vs.length:=by rw [<-h.1];exact(kab.1 hx).1
 exact⟨vs[i],kaa hi,h.2 i x _ hx (kaa hi)⟩
theorem yf1.take{E:Env}{w:World}{xs:List AV}{vs:List Value}(h:yf1 E w xs vs)(n:Nat):yf1 E w (xs.take n) (vs.take n) :=
 ⟨by simp [h.1],λi x v hx hv=>by
   rw [ka5] at hx hv;split at hx
   .rw [if_pos ‹_›] at hv;exact h.2 i x v hx hv
   .cases hx⟩
theorem yf1.drop{E:Env}{w:World}{xs:List AV}{vs:List Value}(h:yf1 E w xs vs)(n:Nat):yf1 E w (xs.drop n) (vs.drop n) :=
 ⟨by simp [h.1],λi x v hx hv=>by rw [kbb] at hx hv;exact h.2 _ x v hx hv⟩
theorem yf1.append{E:Env}{w:World}{xs ys:List AV}{vs us:List Value}(h:yf1 E w xs vs)(k:yf1 E w ys us):yf1 E w (xs++ys) (vs++us) :=
 ⟨by simp [h.1,k.1],λi x v hx hv=>by
   rcases kae i xs.length with hi|hi
   .rw [kam hi] at hx;rw [kam (by rw [<-h.1];exact hi)] at hv;exact h.2 i x v hx hv
   .rw [kao hi] at hx;rw [kao (by rw [<-h.1];exact hi),<-h.1] at hv;exact k.2 _ x v hx hv⟩
theorem yf1.set{E:Env}{w:World}{xs:List AV}{vs:List Value}(h:yf1 E w xs vs){n:Nat}{x:AV}{v:Value}(hx:Rep E w x v):yf1 E w (xs.set n x) (vs.set n v) :=
 ⟨by simp [h.1],λi y u hy hu=>by
   by_cases e:n=i
   .subst e;rcases kae n xs.length with hi|hi
    .rw [kc5 hi] at hy;rw [kc5 (by rw [<-h.1];exact hi)] at hu;cases hy;cases hu;exact hx
    .rw [kay (oa hi)] at hy;cases hy
   .rw [kdg e] at hy hu;exact h.2 i y u hy hu⟩
def zdy(E:Env)(w w':World):Prop:=∀b,E.imm b->∀o v,w.cell? ⟨b,o,none⟩=some v->w'.cell? ⟨b,o,none⟩=some v
theorem zdy.refl(E:Env)(w:World):zdy E w w:=λ_ _ _ _ h=>h
theorem Rep.step{E E':Env}{w w':World}(hi:∀b,E.imm b->E'.imm b)(hk:zdy E w w'):∀{x:AV} {v:Value},Rep E w x v->(∀i∈x.ids,E'.mem i=E.mem i/\E'.buf i=E.buf i)->Rep E' w' x v:=by
 intro x v h;induction h with
 | val v=>exactλ_=>.val v
 | agg xs vs hl h ih=>exactλhs=>.agg xs vs hl λi x v hx hv=>ih i x v hx hv λj hj=>hs j (by simp only [AV.ids];exact zep hx j hj)
 | tup xs vs hl h ih=>exactλhs=>.tup xs vs hl λi x v hx hv=>ih i x v hx hv λj hj=>hs j (by simp only [AV.ids];exact zep hx j hj)
 | nil wd=>exactλ_=>.nil wd
 | sl wd xs b o c val hb hw hc h hn ih =>
   exactλ_=>.sl wd xs b o c val (hi b hb) hw (λi row j x hr hx=>let ⟨p,q,r⟩:=hc i row j x hr hx;⟨p,q,hk b hb _ _ r⟩)
    (λi row j x hr hx=>ih i row j x hr hx λk hk=>by rw [(hc i row j x hr hx).1] at hk;cases hk) hn
 | own id hq=>exactλhs=>by have:=(hs id ox).2;rw [<-this];exact .own id (by rw [this];exact hq)
 | ptr id off=>exactλhs=>by have:=(hs id ox).1;rw [<-this];exact .ptr id off
 | elt wd xs b o n off val hb hw hc h ih =>
   exactλ_=>.elt wd xs b o n off val (hi b hb) hw (λi row j x hr hx=>let ⟨p,q,r⟩:=hc i row j x hr hx;⟨p,q,hk b hb _ _ r⟩)
    λi row j x hr hx=>ih i row j x hr hx λk hk=>by rw [(hc i row j x hr hx).1] at hk;cases hk
 | oelt wd id n off g l c hg=>exactλhs=>.oelt wd id n off g l c (by rw [(hs id (by simp [AV.ids])).2];exact hg)
 | osl wd id lo n g l c hg=>exactλhs=>.osl wd id lo n g l c (by rw [(hs id (by simp [AV.ids])).2];exact hg)
 | psl id off n=>exactλhs=>by have:=(hs id ox).1;rw [<-this];exact .psl id off n
 | fn f first cap vs us hl hm h k ih jh =>
   exactλhs=>.fn f first cap vs us hl hm (λi x v hx hv=>ih i x v hx hv λj hj=>hs j (by simp only [AV.ids,kax];exact .inl (zep hx j hj)))
    λi x v hx hv=>jh i x v hx hv λj hj=>hs j (by simp only [AV.ids,kax];exact .inr (zep hx j hj))
theorem yf1.step{E E':Env}{w w':World}(hi:∀b,E.imm b->E'.imm b)(hk:zdy E w w'){xs:List AV}{vs:List Value}(h:yf1 E w xs vs)(hs:∀i∈zbb xs,E'.mem i=E.mem i/\E'.buf i=E.buf i):yf1 E' w' xs vs :=
 ⟨h.1,λi x v hx hv=>(h.2 i x v hx hv).step hi hk λj hj=>hs j (zep hx j hj)⟩
inductive za7 where
 | av (a:AV)
 | cells (T:TypeId) (xs:List AV)
 | buf (wd:Nat) (T:TypeId) (rows:List (List AV))
 | frz (wd:Nat) (rows:List (List AV))
 | mp (kvs:List (Value×Value))
 | dead
 deriving Inhabited
def za7.ids:za7->List Nat
 | .av a=>a.ids
 | .cells _ xs=>zbb xs
 | _=>[]
abbrev AS:=List (Nat×za7)
def zac:AS->Nat->Option za7
 | [],_=>none
 | (k,c)::l,n=>bif Nat.beq k n then some c else zac l n
theorem zaa(k n:Nat)(c:za7)(l:AS):zac ((k,c)::l) n=if k=n then some c else zac l n:=by
 simp only [zac];by_cases h:k=n
 .rw [if_pos h];subst h;simp
 .rw [if_neg h];cases hb:Nat.beq k n with
  | false=>rfl
  | true=>exact absurd (kaj hb) h
theorem zbz(u s:AS)(n:Nat):zac (u++s) n=(zac u n).or (zac s n):=by
 induction u with
 | nil=>rfl
 | cons p u ih =>obtain⟨k,c⟩:=p;rw [List.cons_append,zaa,zaa,ih];split<;>rfl
def zf1:Value->Option Nat
 | .map (some r)=>some r
 | _=>none
def blk(E:Env)(i:Nat):Option za7->Option Nat
 | some (.cells _ _)=>some (E.mem i)
 | some (.buf _ _ _)=>(E.buf i).ownBlock
 | some (.mp _)=>zf1 (E.buf i)
 | _=>none
def zic(E:Env)(base:Nat)(w:World)(id:Nat):za7->Prop
 | .cells T xs=>∃vs,w.heap[E.mem id]?=some (.cells vs.toArray T (0,0))/\yf1 E w xs vs/\∀x∈xs,x.atom=true
 | .buf wd T rows=>(∀row∈rows,row.length=wd/\∀x∈row,x.ids=[]/\x.atom=true)/\∃vs,w.ownsRow base T wd (E.buf id) rows.length vs/\yf1 E w rows.flatten vs
 | .frz wd rows=>Rep E w (.sl wd rows) (E.buf id)
 | .mp kvs=>∃r es clock,E.buf id=.map (some r)/\w.heap[r]?=some (.map es clock)/\es.toList.map (λe=>(e.key,e.val))=kvs
 | .dead=>True
 | .av _=>False
theorem Rep.one{E:Env}{w:World}{x:AV}{v:Value}(h:Rep E w x v)(ha:x.atom=true):v.oneCell'=true:=by cases h<;>first|exact ha|rfl|assumption|cases ha
abbrev zbf:=List (Nat×List AV)
def zb3(G:zbf)(E:Env)(w:World):Prop:=∀p∈G,E.imm p.1/\(∀x∈p.2,x.ids=[]/\x.atom=true)/\∃val:Nat->Value,∀(j:Nat) x,p.2[j]?=some x->w.cell? ⟨p.1,j,none⟩=some (val j)/\Rep E w x (val j)
structure zfq extends World where
 base:Nat
 hold:Nat->Prop
 old:Nat->Prop
def clD(D:Nat):Deferred:={ target:=.collected D,args:=#[] }
structure zjb(w0:zfq)(w:World):Prop where
 low:Below 0 w0.toWorld w
 keep:∀k,k<w0.heap.size->¬w0.hold k->w.heap[k]?=w0.heap[k]?
 bs:w0.base<=w0.heap.size
theorem zjb.size{w0:zfq}{w:World}(h:zjb w0 w):w0.heap.size<=w.heap.size:=h.low.size
theorem zjb.base{w0:zfq}{w:World}(h:zjb w0 w):w0.base<=w.heap.size:=kak h.bs h.low.size
theorem zjb.grow{w0:zfq}{w w':World}(h:zjb w0 w)(hb:Below w.heap.size w w'):zjb w0 w' :=
 ⟨h.low.trans (hb.mono (kb6 _)),λk hk hn=>(hb.block k (kaf hk h.size)).trans (h.keep k hk hn),h.bs⟩
theorem zjb.wr{w0:zfq}{w w':World}(h:zjb w0 w)(hb:Below 0 w w')(hk:∀k,k<w0.heap.size->¬w0.hold k->w'.heap[k]?=w.heap[k]?):zjb w0 w' :=
 ⟨h.low.trans hb,λk h1 h2=>(hk k h1 h2).trans (h.keep k h1 h2),h.bs⟩
def z3p(w0:zfq)(b:Nat):Prop:=w0.base<=b/\(b<w0.heap.size->w0.hold b/\w0.old b)
theorem z3p.fresh{w0:zfq}{w:World}(h:zjb w0 w){b:Nat}(hb:w.heap.size<=b):z3p w0 b:=⟨kak h.base hb,λhl=>absurd (kaf hl h.size) oc⟩
structure Rel(G:zbf)(N:Nat)(w0:zfq)(s:AS)(a:Act)(w:World)(E:Env):Prop where
 sz:a.tmps.size=N
 df:a.defers=E.dfs.map clD
 dfo:E.dfs.Nodup/\∀D∈E.dfs,(D<w0.heap.size->w0.hold D)/\w.heap[D]?=some (.deferred (some []))
 tmp:∀t x,zac s (2*t)=some (.av x)->Rep E w x (a.tmps.getD t undef)
 mem:∀id c,zac s (2*id+1)=some c->zic E w0.base w id c
 dis:∀i j b,i≠j->blk E i (zac s (2*i+1))=some b->blk E j (zac s (2*j+1))≠some b
 new:∀i b,blk E i (zac s (2*i+1))=some b->z3p w0 b/\¬E.imm b/\b<w.heap.size
 imm:∀b,E.imm b->b<w.heap.size
 ext:zjb w0 w
 old:∀b,E.imm b->b<w0.heap.size->w0.old b
 scp:∀k c,zac s k=some c->∀i∈c.ids,zac s (2*i+1)≠none
 glb:zb3 G E w
theorem zic.step{E E':Env}{base:Nat}{w w':World}{id:Nat}{c:za7}(h:zic E base w id c)(hi:∀b,E.imm b->E'.imm b)(hk:zdy E w w')
  (hid:E'.mem id=E.mem id/\E'.buf id=E.buf id) (hs:∀i∈c.ids,E'.mem i=E.mem i/\E'.buf i=E.buf i)
  (hb:∀b,blk E id (some c)=some b->w'.heap[b]?=w.heap[b]?):zic E' base w' id c:=by
 cases c with
 | av a=>exact h
 | dead=>trivial
 | frz wd rows=>exact(by have:=Rep.step hi hk h (by simp [AV.ids]);simp only [zic];rw [hid.2];exact this)
 | mp kvs =>obtain⟨r,es,cl,h1,h2,h3⟩:=h;exact⟨r,es,cl,by rw [hid.2];exact h1,by rw [hb r (by simp [blk,h1,zf1])];exact h2,h3⟩
 | cells T xs =>obtain⟨vs,h1,h2,h3⟩:=h;exact⟨vs,by rw [hid.1,hb _ rfl];exact h1,h2.step hi hk hs,h3⟩
 | buf wd T rows =>
   obtain⟨h1,vs,h2,h3⟩:=h;refine⟨h1,vs,?_,h3.step hi hk ?_⟩
   .rw [hid.2];obtain⟨p,q⟩:=h2;refine⟨p,?_⟩;rcases q with q|⟨g,cap,cur,e,r1,r2,r3⟩
    .exact .inl q
    .exact .inr ⟨g,cap,cur,e,r1,by rw [hb g (by simp [blk,e,Value.ownBlock])];exact r2,r3⟩
   .intro i hi2;obtain⟨x,hx,hxi⟩:=zal.1 hi2;obtain⟨row,hr,hxr⟩:=kci.1 hx;rw [((h1 row hr).2 x hxr).1] at hxi;cases hxi
theorem zb3.step{G:zbf}{E E':Env}{w w':World}(h:zb3 G E w)(hi:∀b,E.imm b->E'.imm b)(hk:zdy E w w'):zb3 G E' w':=λp hp=>by obtain⟨h1,h2,val,h3⟩:=h p hp;exact⟨hi _ h1,h2,val,λj x hx=>⟨hk _ h1 _ _ (h3 j x hx).1,(h3 j x hx).2.step hi hk (by rw [(h2 x (kag hx)).1];simp)⟩⟩
theorem Rel.move{G:zbf}{N:Nat}{w0 w0':zfq}{s:AS}{a a':Act}{w w':World}{E E':Env}(h:Rel G N w0 s a w E)(ht:a'.tmps=a.tmps)(hdf:a'.defers=E'.dfs.map clD)(hdo:E'.dfs.Nodup/\∀D∈E'.dfs,(D<w0'.heap.size->w0'.hold D)/\w'.heap[D]?=some (.deferred (some [])))(hbs:w0.base=w0'.base)
  (hi:∀b,E.imm b->E'.imm b) (hk:zdy E w w') (hid:∀i,zac s (2*i+1)≠none->E'.mem i=E.mem i/\E'.buf i=E.buf i)
  (hb:∀i b,blk E i (zac s (2*i+1))=some b->w'.heap[b]?=w.heap[b]?/\¬E'.imm b/\z3p w0' b) (hm:∀b,E'.imm b->b<w'.heap.size) (hz:w.heap.size<=w'.heap.size) (he:zjb w0' w') (ho:∀b,E'.imm b->b<w0'.heap.size->w0'.old b):Rel G N w0' s a' w' E':=by
 have hblk:∀i,blk E' i (zac s (2*i+1))=blk E i (zac s (2*i+1)):=λi=>by
  cases hl:zac s (2*i+1) with
  | none=>rfl
  | some c =>have:=hid i (by rw [hl];simp);cases c<;>simp [blk,this.1,this.2]
 refine⟨ht▸h.sz,hdf,hdo,λt x hx=>ht▸(h.tmp t x hx).step hi hk λj hj=>hid j (h.scp _ _ hx j hj),λid c hc=>hbs▸?_,λi j b hij hb1=>?_,λi b hb1=>?_,hm,he,ho,h.scp,h.glb.step hi hk⟩
 .exact(h.mem id c hc).step hi hk (hid id (by rw [hc];simp)) (λi hi2=>hid i (h.scp _ _ hc i hi2)) λb hb1=>(hb id b (by rw [hc];exact hb1)).1
 .rw [hblk] at hb1 |-;exact h.dis i j b hij hb1
 .rw [hblk] at hb1;obtain⟨_,_,r⟩:=h.new i b hb1;obtain⟨_,p,q⟩:=hb i b hb1;exact⟨q,p,kaf r hz⟩
theorem Rel.step{G:zbf}{N:Nat}{w0:zfq}{s:AS}{a:Act}{w w':World}{E E':Env}(h:Rel G N w0 s a w E)(hi:∀b,E.imm b->E'.imm b)(hk:zdy E w w')
  (hid:∀i,zac s (2*i+1)≠none->E'.mem i=E.mem i/\E'.buf i=E.buf i)
  (hb:∀i b,blk E i (zac s (2*i+1))=some b->w'.heap[b]?=w.heap[b]?/\¬E'.imm b) (hm:∀b,E'.imm b->b<w'.heap.size) (hz:w.heap.size<=w'.heap.size) (he:zjb w0 w') (ho:∀b,E'.imm b->b<w0.heap.size->w0.old b) (hd:E'.dfs=E.dfs:=by rfl) (hdd:∀D:Nat,w.heap[D]?=some (Obj.deferred (some []))->w'.heap[D]?=some (Obj.deferred (some []))):Rel G N w0 s a w' E' :=
 h.move rfl (by rw [hd];exact h.df) ⟨hd▸h.dfo.1,λD hD=>⟨(h.dfo.2 D (hd▸hD)).1,hdd D (h.dfo.2 D (hd▸hD)).2⟩⟩ rfl hi hk hid (λi b hbl=>⟨(hb i b hbl).1,(hb i b hbl).2,(h.new i b hbl).1⟩) hm hz he ho
theorem Rel.held{G:zbf}{N:Nat}{w0:zfq}{s:AS}{a:Act}{w:World}{E:Env}(h:Rel G N w0 s a w E){i b:Nat}(hb:blk E i (zac s (2*i+1))=some b):w.heap[b]?≠some (.deferred (some [])):=by
 cases hl:zac s (2*i+1) with
 | none=>rw [hl] at hb;cases hb
 | some c =>
   have hm:=h.mem i c hl;rw [hl] at hb;cases c with
   | cells T xs =>obtain⟨vs,h1,_⟩:=hm;simp only [blk,kap] at hb;subst hb;rw [h1];simp
   | buf wd T rows =>
     obtain⟨_,vs2,⟨_,ho2⟩,_⟩:=hm;simp only [blk] at hb;rcases ho2 with ⟨e,_⟩|⟨g,cap,cur,e,_,e2,_⟩
     .rw [e] at hb;cases hb
     .rw [e] at hb;cases hb;rw [e2];simp
   | mp kvs =>obtain⟨r,es,cl,h1,h2,_⟩:=hm;simp only [blk,h1,zf1,kap] at hb;subst hb;rw [h2];simp
   | _=>cases hb
theorem Rel.put{G:zbf}{N:Nat}{w0:zfq}{s:AS}{a:Act}{w:World}{E:Env}(h:Rel G N w0 s a w E){d:Nat}(hd:d<N){x:AV}{v:Value}(hx:Rep E w x v)(hs:∀i∈x.ids,zac s (2*i+1)≠none) :
  Rel G N w0 ((2*d,.av x)::s) (a.put (some d) v) w E:=by
 have hodd:∀i,zac ((2*d,za7.av x)::s) (2*i+1)=zac s (2*i+1):=λi=>by rw [zaa,if_neg oc]
 refine⟨by simp [Act.put,h.sz],h.df,h.dfo,λt y hy=>?_,λid c hc=>h.mem id c (by rw [<-hodd];exact hc),λi j b hij hb=>by rw [hodd] at hb |-;exact h.dis i j b hij hb,λi b hb=>by rw [hodd] at hb;exact h.new i b hb,h.imm,h.ext,h.old,λk c hk i hi=>?_,h.glb⟩
 .rw [zaa] at hy;split at hy
  .have:d=t:=oc
   subst this;cases hy
   simp only [Act.put,kau,kcl,if_true,h.sz,hd,kcp];exact hx
  .have hne:d≠t:=oc
   simp only [Act.put,kau,kal hne];rw [<-Array.getD_eq_getD_getElem?];exact h.tmp t y hy
 .rw [hodd];rw [zaa] at hk;split at hk
  .cases hk;exact hs i hi
  .exact h.scp k c hk i hi
def ev(s:AS):Operand->Option AV
 | .tmp t=>match zac s (2*t) with
   | some (.av x)=>some x
   | _=>none
 | .const v=>some (.val v)
 | .global g=>some (.val (.pointer (some ⟨g,0,none⟩)))
 | .func f=>some (.val (.func (.func f) #[] #[]))
def rds:Operand->List Nat
 | .tmp t=>[2*t]
 | _=>[]
theorem zas{s s':AS}{x:Operand}(h:∀r∈rds x,zac s' r=zac s r):ev s' x=ev s x:=by
 cases x with
 | tmp t=>simp only [ev];rw [h _ (by simp [rds])]
 | const v=>rfl
 | global g=>rfl
 | func f=>rfl
theorem Rel.ev{G:zbf}{N:Nat}{w0:zfq}{s:AS}{a:Act}{w:World}{E:Env}(h:Rel G N w0 s a w E){x:Operand}{y:AV}(hx:Ab.ev s x=some y):Rep E w y (a.eval x):=by
 cases x with
 | tmp t =>
   simp only [Ab.ev] at hx;split at hx
   .rename_i z hz;cases hx;exact h.tmp t _ hz
   .cases hx
 | const v=>cases hx;exact .val _
 | global g=>cases hx;exact .val _
 | func f=>cases hx;exact .val _
theorem Rel.ev_scp{G:zbf}{N:Nat}{w0:zfq}{s:AS}{a:Act}{w:World}{E:Env}(h:Rel G N w0 s a w E){x:Operand}{y:AV}(hx:Ab.ev s x=some y):∀i∈y.ids,zac s (2*i+1)≠none:=by
 cases x with
 | tmp t =>
   simp only [Ab.ev] at hx;split at hx
   .rename_i z hz;cases hx;exact h.scp _ _ hz
   .cases hx
 | const v=>cases hx;simp [AV.ids]
 | global g=>cases hx;simp [AV.ids]
 | func f=>cases hx;simp [AV.ids]
inductive Sh where
 | st (fs:List (Nat×Nat))
 | ar (n e:Nat)
 | sl (e:Nat)
 | int (k:IntKind)
 | bool
 | str
 | oth
 | bad
structure TI where
 agg:Bool
 size:Nat
 bytes:Nat
 zero:List Value
 sh:Sh
def z3v(P:Program)(t:TypeId):Sh :=
 match P.underlying t with
 | some (.struct fs)=>.st (fs.toList.map λf=>(f.offset,((P.info? f.type).map (·.size)).getD 0))
 | some (.array n e)=>.ar n e
 | some (.slice e)=>.sl e
 | some (.int k)=>.int k
 | some .bool=>.bool
 | some .string=>.str
 | some _=>.oth
 | none=>.bad
def ycb(P:Program)(t:TypeId):Option TI :=
 match P.info? t with
 | some i=>match i.zero with
   | some z=>match P.underlying t with
     | some _=>some ⟨(match z3v P t with|.st _|.ar _ _=>true|_=>false),i.size,i.bytes,z.cells.toList,z3v P t⟩
     | none=>none
   | none=>none
 | none=>none
theorem zn1{P:Program}{t:TypeId}{i:TypeInfo}(h:P.info? t=some i)(w:World):(typeInfo t).run P w=.ok i w:=by simp only [typeInfo,program,Bind.bind,Sem.bind,Sem.run,h];rfl
def z33:List (Nat×TI)->Nat->Option TI
 | [],_=>none
 | (k,c)::l,n=>bif Nat.beq k n then some c else z33 l n
structure Cx where
 P:Program
 G:zbf
 T:List (Nat×TI)
 hT:T.map (λp=>ycb P p.1)=T.map (λp=>some p.2)
theorem zvb{P:Program}:∀{T:List (Nat×TI)},T.map (λp=>ycb P p.1)=T.map (λp=>some p.2)->∀{t:Nat} {i:TI},z33 T t=some i->ycb P t=some i
 | [],_,_,_,h=>by cases h
 | (k,c)::l,hT,t,i,h=>by
   simp only [kbq,kc8] at hT;simp only [z33] at h;cases hb:Nat.beq k t with
   | true =>rw [hb] at h;have:=kaj hb;subst this;simp only [cond_true] at h;rw [hT.1,h]
   | false =>rw [hb] at h;exact zvb hT.2 h
def Cx.ti(C:Cx)(t:Nat):Option TI:=z33 C.T t
section types
variable{C:Cx}{t:Nat}{i:TI}
theorem Cx.ti_of(h:C.ti t=some i):ycb C.P t=some i:=zvb C.hT h
theorem Cx.ti_all(h:C.ti t=some i):z3v C.P t=i.sh/\(∃d,C.P.underlying t=some d)/\∃j z,C.P.info? t=some j/\j.zero=some z/\z.cells.toList=i.zero/\j.size=i.size/\j.bytes=i.bytes/\i.agg=(match i.sh with|.st _|.ar _ _=>true|_=>false):=by
 have:=Cx.ti_of h;unfold ycb at this;split at this
 .rename_i j hj;split at this
  .rename_i z hz;split at this
   .rename_i d hd;cases this
    exact⟨rfl,⟨d,hd⟩,j,z,hj,hz,rfl,rfl,rfl,rfl⟩
   .cases this
  .cases this
 .cases this
theorem Cx.ti_sh(h:C.ti t=some i):z3v C.P t=i.sh:=(Cx.ti_all h).1
theorem Cx.ti_size(h:C.ti t=some i)(w:World):(sizeOf t).run C.P w=.ok i.size w:=by obtain⟨_,_,j,z,h1,h2,h3,h4,h5,h6⟩:=Cx.ti_all h;simp [sizeOf,zn1 h1,h4]
theorem Cx.ti_zero(h:C.ti t=some i)(w:World):∃z,(zeroValue t).run C.P w=.ok z w/\z.cells.toList=i.zero:=by obtain⟨_,_,j,z,h1,h2,h3,h4,h5,h6⟩:=Cx.ti_all h;exact⟨z,by simp [zeroValue,zn1 h1,h2],h3⟩
theorem Cx.ti_agg(h:C.ti t=some i)(w:World):(isAgg t).run C.P w=.ok i.agg w:=by obtain⟨hs,⟨d,hu⟩,j,z,h1,h2,h3,h4,h5,h6⟩:=Cx.ti_all h;rw [h6,<-hs];unfold z3v;rw [hu];cases d<;>simp [isAgg,run_underlying hu]
theorem Cx.under_sl(h:C.ti t=some i){e:Nat}(hs:i.sh=.sl e):C.P.underlying t=some (.slice e):=by
 have:=Cx.ti_sh h;rw [hs] at this;unfold z3v at this;split at this<;>first|cases this|skip
 assumption
theorem Cx.under_ar(h:C.ti t=some i){n e:Nat}(hs:i.sh=.ar n e):C.P.underlying t=some (.array n e):=by
 have:=Cx.ti_sh h;rw [hs] at this;unfold z3v at this;split at this<;>first|cases this|skip
 assumption
theorem Cx.under_st(h:C.ti t=some i){fs:List (Nat×Nat)}(hs:i.sh=.st fs):∃gs,C.P.underlying t=some (.struct gs)/\gs.toList.map (λf=>(f.offset,((C.P.info? f.type).map (·.size)).getD 0))=fs:=by
 have:=Cx.ti_sh h;rw [hs] at this;unfold z3v at this;split at this<;>first|cases this|skip
 exact⟨_,by assumption,rfl⟩
theorem Cx.under_int(h:C.ti t=some i){k:IntKind}(hs:i.sh=.int k):C.P.underlying t=some (.int k):=by
 have:=Cx.ti_sh h;rw [hs] at this;unfold z3v at this;split at this<;>first|cases this|skip
 assumption
end types
def AOp(C:Cx)(N:Nat)(o:Oper)(R:List Nat)(s u:AS):Prop :=
 ∀w0 E s' a w,(∀r∈R,zac s' r=zac s r)->Rel C.G N w0 s' a w E->∀(K:Act->World->Prop) (Q:Exit->Act->World->Prop),(∀a' w' E',Rel C.G N w0 (u++s') a' w' E'->K a' w')->o.wp C.P a w K Q
section ops
variable{C:Cx}{N:Nat}{s:AS}{d:Nat}{ty:TypeId}{pos:String}{af:Array Edge}{g:Option (Nat×Bool)}
theorem zau{op:Op}{x:AV}{R:List Nat}(hd:d<N)
  (h:∀w0 E s' a w,(∀r∈R,zac s' r=zac s r)->Rel C.G N w0 s' a w E->∃v,(execOp a.eval ⟨some d,op,ty,pos,af,g⟩).run C.P w=.ok (.value v) w/\Rep E w x v/\∀i∈x.ids,zac s' (2*i+1)≠none) :
  AOp C N ⟨some d,op,ty,pos,af,g⟩ R s [(2*d,.av x)]:=by
 intro w0 E s' a w hR hr K Q hK
 obtain⟨v,h1,h2,h3⟩:=h w0 E s' a w hR hr
 unfold Oper.wp
 rw [h1]
 exact hK _ _ E (hr.put hd h2 h3)
theorem zat{s':AS}{x:Operand}{y:AV}{R:List Nat}(hR:∀r∈R,zac s' r=zac s r)(hs:∀r∈rds x,r∈R)(hx:ev s x=some y):ev s' x=some y:=by rw [zas (s:=s) λr hr=>hR r (hs r hr)];exact hx
theorem z8r{x:Operand}{y:AV}(hd:d<N)(hx:ev s x=some y):AOp C N ⟨some d,.move x,ty,pos,af,g⟩ (rds x) s [(2*d,.av y)] :=
 zau hd λw0 E s' a w hR hr=>by have hx':=zat hR (λ_ h=>h) hx;exact⟨a.eval x,rfl,hr.ev hx',hr.ev_scp hx'⟩
theorem zxj{x:Operand}{y:AV}(hd:d<N)(hx:ev s x=some y):AOp C N ⟨some d,.assign x,ty,pos,af,g⟩ (rds x) s [(2*d,.av y)] :=
 zau hd λw0 E s' a w hR hr=>by have hx':=zat hR (λ_ h=>h) hx;exact⟨a.eval x,rfl,hr.ev hx',hr.ev_scp hx'⟩
theorem Rep.val_eq{E:Env}{w:World}{u v:Value}(h:Rep E w (.val u) v):v=u:=by cases h;rfl
theorem z8o{c x y:Operand}{b:Bool}{z:AV}(hd:d<N)(hc:ev s c=some (.val (.bool b)))(hx:ev s (if b then x else y)=some z) :
  AOp C N ⟨some d,.pick c x y,ty,pos,af,g⟩ (rds c++rds x++rds y) s [(2*d,.av z)] :=
 zau hd λw0 E s' a w hR hr=>by have hc':=zat hR (λ_ h=>by simp [h]) hc;have hx':=zat hR (λr h=>by cases b<;>simp_all) hx;refine⟨a.eval (if b then x else y),?_,hr.ev hx',hr.ev_scp hx'⟩;have e:=(hr.ev hc').val_eq;simp only [execOp,e,asBool];cases b<;>rfl
theorem z28{c x y:Operand}{z:AV}(hd:d<N)(hc:ev s c=some (.val (.bool true)))(hx:ev s x=some z) :
 AOp C N ⟨some d,.pick c x y,ty,pos,af,g⟩ (rds c++rds x++rds y) s [(2*d,.av z)]:=z8o hd hc hx
theorem z29{c x y:Operand}{z:AV}(hd:d<N)(hc:ev s c=some (.val (.bool false)))(hx:ev s y=some z) :
 AOp C N ⟨some d,.pick c x y,ty,pos,af,g⟩ (rds c++rds x++rds y) s [(2*d,.av z)]:=z8o hd hc hx
theorem zux{op:Op}{x:Operand}{u v:Value}(hd:d<N)(hx:ev s x=some (.val u))(h:∀(ρ:Operand->Value) w,ρ x=u->(execOp ρ ⟨some d,op,ty,pos,af,g⟩).run C.P w=.ok (.value v) w) :
  AOp C N ⟨some d,op,ty,pos,af,g⟩ (rds x) s [(2*d,.av (.val v))] :=
 zau hd λw0 E s' a w hR hr=>⟨v,h a.eval w (hr.ev (zat hR (λ_ h=>h) hx)).val_eq,.val v,by simp [AV.ids]⟩
theorem zb2{op:Op}{x y:Operand}{u t v:Value}(hd:d<N)(hx:ev s x=some (.val u))(hy:ev s y=some (.val t))(h:∀(ρ:Operand->Value) w,ρ x=u->ρ y=t->(execOp ρ ⟨some d,op,ty,pos,af,g⟩).run C.P w=.ok (.value v) w) :
  AOp C N ⟨some d,op,ty,pos,af,g⟩ (rds x++rds y) s [(2*d,.av (.val v))] :=
 zau hd λw0 E s' a w hR hr=>⟨v,h a.eval w (hr.ev (zat hR (λ_ h=>by simp [h]) hx)).val_eq (hr.ev (zat hR (λ_ h=>by simp [h]) hy)).val_eq,.val v,by simp [AV.ids]⟩
def inI(k:IntKind)(n:Int):Prop:=k.wrap n=n
section arith
variable{x y:Operand}{t t':TypeId}{k:IntKind}{m n:Int}
theorem a_add(hd:d<N)(hx:ev s x=some (.val (.int k m)))(hy:ev s y=some (.val (.int k n)))(h:inI k (m+n)):AOp C N ⟨some d,.binOp .add t x y t',ty,pos,af,g⟩ (rds x++rds y) s [(2*d,.av (.val (.int k (m+n))))] :=
 zb2 hd hx hy λρ w e1 e2=>by simp [execOp,e1,e2,eqGuard,binOp,Op.intArith,show k.wrap (m+n)=m+n from h]
theorem yex(hd:d<N)(hx:ev s x=some (.val (.int k m)))(hy:ev s y=some (.val (.int k n)))(h:inI k (m-n)):AOp C N ⟨some d,.binOp .sub t x y t',ty,pos,af,g⟩ (rds x++rds y) s [(2*d,.av (.val (.int k (m-n))))] :=
 zb2 hd hx hy λρ w e1 e2=>by simp [execOp,e1,e2,eqGuard,binOp,Op.intArith,show k.wrap (m-n)=m-n from h]
theorem a_mul(hd:d<N)(hx:ev s x=some (.val (.int k m)))(hy:ev s y=some (.val (.int k n)))(h:inI k (m*n)):AOp C N ⟨some d,.binOp .mul t x y t',ty,pos,af,g⟩ (rds x++rds y) s [(2*d,.av (.val (.int k (m*n))))] :=
 zb2 hd hx hy λρ w e1 e2=>by simp [execOp,e1,e2,eqGuard,binOp,Op.intArith,show k.wrap (m*n)=m*n from h]
theorem a_lss(hd:d<N)(hx:ev s x=some (.val (.int k m)))(hy:ev s y=some (.val (.int k n))):AOp C N ⟨some d,.binOp .lss t x y t',ty,pos,af,g⟩ (rds x++rds y) s [(2*d,.av (.val (.bool (decide (m<n)))))] :=
 zb2 hd hx hy λρ w e1 e2=>by simp [execOp,e1,e2,eqGuard,binOp,Op.intCmp]
theorem a_leq(hd:d<N)(hx:ev s x=some (.val (.int k m)))(hy:ev s y=some (.val (.int k n))):AOp C N ⟨some d,.binOp .leq t x y t',ty,pos,af,g⟩ (rds x++rds y) s [(2*d,.av (.val (.bool (decide (m<=n)))))] :=
 zb2 hd hx hy λρ w e1 e2=>by simp [execOp,e1,e2,eqGuard,binOp,Op.intCmp]
theorem a_gtr(hd:d<N)(hx:ev s x=some (.val (.int k m)))(hy:ev s y=some (.val (.int k n))):AOp C N ⟨some d,.binOp .gtr t x y t',ty,pos,af,g⟩ (rds x++rds y) s [(2*d,.av (.val (.bool (decide (n<m)))))] :=
 zb2 hd hx hy λρ w e1 e2=>by simp [execOp,e1,e2,eqGuard,binOp,Op.intCmp]
theorem a_geq(hd:d<N)(hx:ev s x=some (.val (.int k m)))(hy:ev s y=some (.val (.int k n))):AOp C N ⟨some d,.binOp .geq t x y t',ty,pos,af,g⟩ (rds x++rds y) s [(2*d,.av (.val (.bool (decide (n<=m)))))] :=
 zb2 hd hx hy λρ w e1 e2=>by simp [execOp,e1,e2,eqGuard,binOp,Op.intCmp]
theorem a_eql(hd:d<N)(hx:ev s x=some (.val (.int k m)))(hy:ev s y=some (.val (.int k n))):AOp C N ⟨some d,.binOp .eql t x y t',ty,pos,af,g⟩ (rds x++rds y) s [(2*d,.av (.val (.bool (decide (m=n)))))] :=
 zb2 hd hx hy λρ w e1 e2=>by simp [execOp,e1,e2,eqGuard,binOp,Op.intCmp];rfl
theorem a_neq(hd:d<N)(hx:ev s x=some (.val (.int k m)))(hy:ev s y=some (.val (.int k n))):AOp C N ⟨some d,.binOp .neq t x y t',ty,pos,af,g⟩ (rds x++rds y) s [(2*d,.av (.val (.bool (!decide (m=n)))))] :=
 zb2 hd hx hy λρ w e1 e2=>by simp [execOp,e1,e2,eqGuard,binOp,Op.intCmp];rfl
theorem a_not{b:Bool}(hd:d<N)(hx:ev s x=some (.val (.bool b))):AOp C N ⟨some d,.unOp .not t x,ty,pos,af,g⟩ (rds x) s [(2*d,.av (.val (.bool (!b))))] :=
 zux hd hx λρ w e1=>by simp [execOp,e1,Op.unary]
theorem zs4{xs:List AV}{ix:Nat}{z:AV}(hd:d<N)(hx:ev s x=some (.tup xs))(hi:xs[ix]?=some z):AOp C N ⟨some d,.extract x ix,ty,pos,af,g⟩ (rds x) s [(2*d,.av z)] :=
 zau hd λw0 E s' a w hR hr=>by
  have hx':=zat hR (λ_ h=>h) hx;have h1:=hr.ev hx';generalize he:a.eval x=v at h1;cases h1 with
  | tup _ vs hl h =>have hlt:=(kab.1 hi).1;refine⟨vs[ix]' oc,?_,h ix _ _ hi (kaa _),λi hi2=>hr.ev_scp hx' i (by simp only [AV.ids];exact zep hi i hi2)⟩;simp [execOp,he,Instr.extract,show ix<vs.length by omega]
end arith
def Cx.foff(C:Cx)(t f:Nat):Option Nat :=
 match C.ti t with
 | some ⟨_,_,_,_,.st fs⟩=>match fs[f]? with
   | some (o,z)=>bif Nat.beq z 0 then none else some o
   | none=>none
 | _=>none
theorem zfv{P:Program}{t f o:Nat}{C:Cx}(h:C.foff t f=some o)(hP:C.P=P)(w:World)(ad:Addr)(hsp:ad.spot=none):(Instr.fieldAt t (.pointer (some ad)) f).run P w=.ok (.pointer (some ⟨ad.block,ad.off+o,none⟩)) w:=by
 subst hP;unfold Cx.foff at h;split at h
 .rename_i fs ht;obtain⟨gs,hu,hg⟩:=Cx.under_st ht rfl;split at h
  .rename_i o' z hf;cases hz:Nat.beq z 0 with
   | true=>rw [hz] at h;cases h
   | false =>
     rw [hz] at h;simp only [cond_false,kap] at h;subst h;rw [<-hg,kaq] at hf;cases hgf:gs.toList[f]? with
     | none=>rw [hgf] at hf;cases hf
     | some fd =>
       rw [hgf] at hf;simp only [kcc,kap,Prod.mk.injEq] at hf;obtain⟨h1,h2⟩:=hf;have hgf':gs[f]?=some fd:=oa hgf
       cases hi:C.P.info? fd.type with
       | none=>rw [hi] at h2;simp at h2;subst h2;cases hz
       | some j =>
         rw [hi] at h2;simp at h2;have hz0:j.size≠0:=by intro e;rw [h2] at e;subst e;cases hz
         have e1:(sizeOf fd.type).run C.P w=.ok j.size w:=by simp [sizeOf,zn1 hi]
         have e2:ad.add fd.offset=⟨ad.block,ad.off+o',none⟩:=by
          unfold Addr.add;split
          .rename_i h0;rw [h0] at h1;subst h1;cases ad;simp_all
          .subst h1;rfl
         simp [Instr.fieldAt,run_underlying hu,hgf',Instr.sureAddr,fieldPlace,e1,hz0,e2]
  .cases h
 .cases h
section addr
variable{x y:Operand}{t f o:Nat}
theorem z3h{x:Operand}{i off:Nat}(hd:d<N)(hx:ev s x=some (.ptr i off))(hf:C.foff t f=some o):AOp C N ⟨some d,.fieldAddr t x f,ty,pos,af,g⟩ (rds x) s [(2*d,.av (.ptr i (off+o)))] :=
 zau hd λw0 E s' a w hR hr=>by
  have hx':=zat hR (λ_ h=>h) hx;have h1:=hr.ev hx';generalize he:a.eval x=v at h1;cases h1 with
  | ptr =>refine⟨.pointer (some ⟨E.mem i,off+o,none⟩),?_,.ptr i (off+o),λk hk=>hr.ev_scp hx' k oI⟩;simp only [execOp,he,Sem.run_bind,zfv hf rfl w ⟨E.mem i,off,none⟩ rfl,Result.andThen_ok,Sem.run_pure]
theorem zxi{x:Operand}{wd:Nat}{xs:List (List AV)}{n off:Nat}(hd:d<N)(hx:ev s x=some (.elt wd xs n off))(hf:C.foff t f=some o):AOp C N ⟨some d,.fieldAddr t x f,ty,pos,af,g⟩ (rds x) s [(2*d,.av (.elt wd xs n (off+o)))] :=
 zau hd λw0 E s' a w hR hr=>by
  have hx':=zat hR (λ_ h=>h) hx;have h1:=hr.ev hx';generalize he:a.eval x=v at h1;cases h1 with
  | elt _ _ b o' _ _ val hb hw hc h =>refine⟨.pointer (some ⟨b,o'+n*wd+off+o,none⟩),?_,by rw [kdb _ off o];exact .elt wd xs b o' n (off+o) val hb hw hc h,by simp [AV.ids]⟩;simp only [execOp,he,Sem.run_bind,zfv hf rfl w ⟨b,o'+n*wd+off,none⟩ rfl,Result.andThen_ok,Sem.run_pure]
theorem zxg{x:Operand}{wd i n off:Nat}(hd:d<N)(hx:ev s x=some (.oelt wd i n off))(hf:C.foff t f=some o):AOp C N ⟨some d,.fieldAddr t x f,ty,pos,af,g⟩ (rds x) s [(2*d,.av (.oelt wd i n (off+o)))] :=
 zau hd λw0 E s' a w hR hr=>by
  have hx':=zat hR (λ_ h=>h) hx;have h1:=hr.ev hx';generalize he:a.eval x=v at h1;cases h1 with
  | oelt _ _ _ _ gg l c hg =>refine⟨.pointer (some ⟨gg,n*wd+off+o,none⟩),?_,by rw [kdb _ off o];exact .oelt wd i n (off+o) gg l c hg,λk hk=>hr.ev_scp hx' k oI⟩;simp only [execOp,he,Sem.run_bind,zfv hf rfl w ⟨gg,n*wd+off,none⟩ rfl,Result.andThen_ok,Sem.run_pure]
theorem zxh{x:Operand}{b off:Nat}(hd:d<N)(hx:ev s x=some (.val (.pointer (some ⟨b,off,none⟩))))(hf:C.foff t f=some o):AOp C N ⟨some d,.fieldAddr t x f,ty,pos,af,g⟩ (rds x) s [(2*d,.av (.val (.pointer (some ⟨b,off+o,none⟩))))] :=
 zux hd hx λρ w e1=>by simp only [execOp,e1,Sem.run_bind,zfv hf rfl w ⟨b,off,none⟩ rfl,Result.andThen_ok,Sem.run_pure]
end addr
end ops
theorem Addr.add_at(b o n:Nat):(⟨b,o,none⟩:Addr).add n=⟨b,o+n,none⟩:=by unfold Addr.add;split<;>simp_all
theorem zj2{w:World}{b:Nat}{vs:List Value}{T:TypeId}{fz:Nat×Nat}(h:w.heap[b]?=some (.cells vs.toArray T fz))(o:Nat):w.cell? ⟨b,o,none⟩=vs[o]?:=by simp [World.cell?,h]
theorem zmv{rows:List (List AV)}{wd:Nat}(hw:∀r∈rows,r.length=wd):∀{n j:Nat} {row:List AV} {x:AV},rows[n]?=some row->row[j]?=some x->rows.flatten[n*wd+j]?=some x:=by
 induction rows with
 | nil=>intro n j row x h;simp at h
 | cons r rows ih =>
   intro n j row x h hx;have hr:=hw r od;cases n with
   | zero =>simp at h;subst h;have hj:=(kab.1 hx).1;simp only [kcm,Nat.zero_mul,kb0];rw [kam hj];exact hx
   | succ n =>
     simp at h;simp only [kcm];rw [kao (by rw [hr,kct];omega)];have e:(n+1)*wd+j-r.length=n*wd+j:=by rw [hr,kct];omega
     rw [e];exact ih (λr hr=>hw r (by simp [hr])) h hx
theorem zpy{xs:List AV}{a b i:Nat}(h:i∈zbb ((xs.drop a).take b)):i∈zbb xs:=by obtain⟨x,hx,hi⟩:=zal.1 h;exact zal.2 ⟨x,kby (kbz hx),hi⟩
structure znh(E:Env)(w:World)(wd:Nat)(xs:List (List AV))(b o:Nat):Prop where
 hb:∀row∈xs,row.length=wd
 get:∀(i:Nat) row (j:Nat) x,xs[i]?=some row->row[j]?=some x->∃v,x.ids=[]/\x.atom=true/\w.cell? ⟨b,o+i*wd+j,none⟩=some v/\Rep E w x v
theorem zkz{P:Program}{w:World}{E:Env}{b o size:Nat}{xs:List AV}(hl:xs.length=size)(h:∀(j:Nat) x,xs[j]?=some x->∃v,w.cell? ⟨b,o+j,none⟩=some v/\Rep E w x v) :
  ∃vs,(loadCells ⟨b,o,none⟩ size).run P w=.ok vs.toArray w/\yf1 E w xs vs:=by
 have hc:∀j,j<xs.length->∃v,w.cell? ⟨b,o+j,none⟩=some v/\∀x,xs[j]?=some x->Rep E w x v:=λj hj=>by obtain⟨v,h1,h2⟩:=h j xs[j] (kaa hj);exact⟨v,h1,λx hx=>by rw [kaa hj] at hx;cases hx;exact h2⟩
 let f:Nat->Value:=λj=>(w.cell? ⟨b,o+j,none⟩).getD undef
 refine⟨(List.range size).map f,?_,by simp [hl],λi x v hx hv=>?_⟩
 .refine run_loadCells w _ size f λj hj=>?_;obtain⟨v,h1,_⟩:=hc j oc;rw [Addr.add_at,h1];simp [f,h1]
 .have hi:=(kab.1 hx).1;obtain⟨v',h1,h2⟩:=hc i hi;simp only [kaq,List.getElem?_range (show i<size by omega),kcc,kap] at hv;subst hv;simp only [f,h1,kcp];exact h2 x hx
section ops
variable{C:Cx}{N:Nat}{s:AS}{d:Nat}{ty:TypeId}{pos:String}{af:Array Edge}{g:Option (Nat×Bool)}{x y:Operand}{t:TypeId}{ti:TI}
theorem zim{P:Program}{w:World}{ad:Addr}{v:Value}(ha:(isAgg t).run P w=.ok false w)(hc:w.cell? ad=some v):(Instr.loadAt t (.pointer (some ad))).run P w=.ok v w:=by simp [Instr.loadAt,Instr.sureAddr,loadVar,ha,hc]
theorem zl2{P:Program}{w:World}{ad:Addr}{vs:List Value}{n:Nat}(ha:(isAgg t).run P w=.ok true w)(hs:(sizeOf t).run P w=.ok n w)(hc:(loadCells ad n).run P w=.ok vs.toArray w):(Instr.loadAt t (.pointer (some ad))).run P w=.ok (.agg vs.toArray) w:=by simp [Instr.loadAt,Instr.sureAddr,loadVar,ha,hs,hc]
theorem zee{P:Program}{ρ:Operand->Value}{w w':World}{u v:Value}(hx:ρ x=u)(h:(Instr.loadAt t u).run P w=.ok v w'):(execOp ρ ⟨some d,.load t x,ty,pos,af,g⟩).run P w=.ok (.value v) w':=by simp only [execOp,hx,Sem.run_bind,h,Result.andThen_ok,Sem.run_pure]
theorem z8s{i off:Nat}{T:TypeId}{xs:List AV}{z:AV}(hd:d<N)(hx:ev s x=some (.ptr i off))(hl:zac s (2*i+1)=some (.cells T xs))(ht:C.ti t=some ti)(ha:ti.agg=false)(hz:xs[off]?=some z) :
  AOp C N ⟨some d,.load t x,ty,pos,af,g⟩ (rds x++[2*i+1]) s [(2*d,.av z)] :=
 zau hd λw0 E s' a w hR hr=>by
  have hx':=zat hR (λ_ h=>by simp [h]) hx;have hl':zac s' (2*i+1)=some (.cells T xs):=(hR _ od).trans hl;have h1:=hr.ev hx';generalize he:a.eval x=v at h1;cases h1 with
  | ptr =>obtain⟨vs,h1,h2,_⟩:=hr.mem i _ hl';obtain⟨v,hv,hrep⟩:=h2.get hz;exact⟨v,zee he (zim oA (by rw [zj2 h1];exact hv)),hrep,λk hk=>hr.scp _ _ hl' k (zep hz k hk)⟩
theorem z3e{i off:Nat}{T:TypeId}{xs:List AV}(hd:d<N)(hx:ev s x=some (.ptr i off))(hl:zac s (2*i+1)=some (.cells T xs))(ht:C.ti t=some ti)(ha:ti.agg=true)(hz:Nat.ble (off+ti.size) xs.length=true) :
  AOp C N ⟨some d,.load t x,ty,pos,af,g⟩ (rds x++[2*i+1]) s [(2*d,.av (.agg ((xs.drop off).take ti.size)))] :=
 zau hd λw0 E s' a w hR hr=>by
  have hz:=kah hz;have hx':=zat hR (λ_ h=>by simp [h]) hx;have hl':zac s' (2*i+1)=some (.cells T xs):=(hR _ od).trans hl;have h1:=hr.ev hx';generalize he:a.eval x=v at h1;cases h1 with
  | ptr =>
    obtain⟨vs,h1,h2,_⟩:=hr.mem i _ hl';have hrl:=(h2.drop off).take ti.size;obtain⟨us,hru,hrep⟩:=zkz (P:=C.P) (E:=E) (w:=w) (b:=E.mem i) (o:=off) (size:=ti.size) (xs:=(xs.drop off).take ti.size) oy λj y hy=>by
     rw [ka5] at hy;split at hy
     .rw [kbb] at hy;obtain⟨v,hv,hq⟩:=h2.get hy;exact⟨v,by rw [zj2 h1];exact hv,hq⟩
     .cases hy
    exact⟨_,zee he (zl2 oA (Cx.ti_size ht w) hru),.agg _ _ hrep.1 hrep.2,λk hk=>hr.scp _ _ hl' k (zpy oI)⟩
theorem z3d{wd n off:Nat}{xs:List (List AV)}{row:List AV}{z:AV}(hd:d<N)(hx:ev s x=some (.elt wd xs n off))(ht:C.ti t=some ti)(ha:ti.agg=false)(hn:xs[n]?=some row)(hz:row[off]?=some z) :
  AOp C N ⟨some d,.load t x,ty,pos,af,g⟩ (rds x) s [(2*d,.av z)] :=
 zau hd λw0 E s' a w hR hr=>by
  have hx':=zat hR (λ_ h=>h) hx;have h1:=hr.ev hx';generalize he:a.eval x=v at h1;cases h1 with
  | elt _ _ b o _ _ val hb hw hc h =>obtain⟨h1,h2,h3⟩:=hc n row off z hn hz;exact⟨_,zee he (zim oA h3),h n row off z hn hz,by rw [h1];simp⟩
theorem zxb{wd n off:Nat}{xs:List (List AV)}{row:List AV}(hd:d<N)(hx:ev s x=some (.elt wd xs n off))(ht:C.ti t=some ti)(ha:ti.agg=true)(hn:xs[n]?=some row)(hz:Nat.ble (off+ti.size) wd=true) :
  AOp C N ⟨some d,.load t x,ty,pos,af,g⟩ (rds x) s [(2*d,.av (.agg ((row.drop off).take ti.size)))] :=
 zau hd λw0 E s' a w hR hr=>by
  have hz:=kah hz;have hx':=zat hR (λ_ h=>h) hx;have h1:=hr.ev hx';generalize he:a.eval x=v at h1;cases h1 with
  | elt _ _ b o _ _ val hb hw hc h =>
    have hrow:=hw row (kag hn);obtain⟨us,hru,hrep⟩:=zkz (P:=C.P) (E:=E) (w:=w) (b:=b) (o:=o+n*wd+off) (size:=ti.size) (xs:=(row.drop off).take ti.size) oy λj y hy=>by
     rw [ka5] at hy;split at hy
     .rw [kbb] at hy;exact⟨_,by rw [kdb _ off j];exact(hc n row _ y hn hy).2.2,h n row _ y hn hy⟩
     .cases hy
    refine⟨_,zee he (zl2 oA (Cx.ti_size ht w) hru),.agg _ _ hrep.1 hrep.2,λk hk=>?_⟩;have:=zpy oI;obtain⟨q,hq,hk⟩:=zal.1 this;obtain⟨j,hj,rfl⟩:=kcx.1 hq;rw [(hc n row j _ hn (kaa hj)).1] at hk;cases hk
def zea:Option za7->Option (Nat×List (List AV))
 | some (.buf wd _ rows)=>some (wd,rows)
 | some (.frz wd rows)=>some (wd,rows)
 | _=>none
theorem zjk{E:Env}{base:Nat}{w:World}{i wd:Nat}{rows:List (List AV)}{c:Option za7}(h:∀k,c=some k->zic E base w i k)(hr:zea c=some (wd,rows)) :
  (E.buf i=.slice none 0 0/\rows=[])\/∃b o cap,E.buf i=.slice (some ⟨b,o,none⟩) rows.length cap/\znh E w wd rows b o:=by
 cases c with
 | none=>cases hr
 | some c =>
   have hm:=h c rfl;cases c with
   | av a=>cases hr
   | cells T xs=>cases hr
   | mp kvs=>cases hr
   | dead=>cases hr
   | buf wd' T rows' =>
     cases hr;obtain⟨h1,vs,⟨h2,h3⟩,h4⟩:=hm
     rcases h3 with ⟨h3,h5⟩|⟨gg,cap,cur,h3,h5,h6,h7,h8,h9,h10⟩
     .exact .inl ⟨h3,kbs.1 h5⟩
     .refine .inr ⟨gg,0,cap,h3,λrow hr=>(h1 row hr).1,λi row j x hi hj=>?_⟩;have hf:=zmv (λr hr=>(h1 r hr).1) hi hj;obtain⟨v,hv,hq⟩:=h4.get hf;refine⟨v,((h1 row (kag hi)).2 x (kag hj)).1,((h1 row (kag hi)).2 x (kag hj)).2,?_,hq⟩;have hlt:=(kab.1 hv).1;rw [<-h10] at hv;have:cur.toList[i*wd+j]?=some v:=by
        rw [ka5] at hv;split at hv
        .exact hv
        .cases hv
      simp only [World.cell?,h6,kb0];simpa using this
   | frz wd' rows' =>
     cases hr;simp only [zic] at hm
     generalize hv:E.buf i=v at hm;cases hm with
     | nil=>exact .inl ⟨rfl,rfl⟩
     | sl _ _ b o c val hb hw hc h=>exact .inr ⟨b,o,c,rfl,hw,λi row j x hi hj=>⟨_,(hc i row j x hi hj).1,(hc i row j x hi hj).2.1,(hc i row j x hi hj).2.2,h i row j x hi hj⟩⟩
theorem yml{E:Env}{base:Nat}{w:World}{i wd:Nat}{rows:List (List AV)}{c:Option za7}(h:∀k,c=some k->zic E base w i k)(hr:zea c=some (wd,rows)) :
  (E.buf i=.slice none 0 0/\rows=[])\/∃b o cap,E.buf i=.slice (some ⟨b,o,none⟩) rows.length cap/\znh E w wd rows b o/\rows.length<=cap:=by
 rcases zjk h hr with h1|⟨b,o,cap,h1,h2⟩
 .exact .inl h1
 .refine .inr ⟨b,o,cap,h1,h2,?_⟩;cases c with
  | none=>cases hr
  | some c =>
    have hm:=h c rfl;cases c with
    | av a=>cases hr
    | cells T xs=>cases hr
    | mp kvs=>cases hr
    | dead=>cases hr
    | buf wd' T rows' =>
      cases hr;obtain⟨_,vs,⟨_,h3⟩,_⟩:=hm
      rcases h3 with ⟨h3,h5⟩|⟨gg,cap',cur,h3,h5,h6,h7,_⟩
      .rw [h3] at h1;cases h1
      .rw [h3] at h1;cases h1;exact h7
    | frz wd' rows' =>
      cases hr;simp only [zic] at hm
      rw [h1] at hm;generalize hv:Value.slice (some ⟨b,o,none⟩) rows.length cap=v at hm;cases hm with
      | nil=>cases hv
      | sl _ _ b' o' c' val hb hw hc h hn=>simp only [Value.slice.injEq] at hv;rw [hv.2.2];exact hn
theorem zda{E:Env}{w:World}{i:Nat}{v:Value}(h:Rep E w (.own i) v):v=E.buf i:=by cases h;rfl
theorem z3c{wd wd' i n off:Nat}{rows:List (List AV)}{row:List AV}{z:AV}(hd:d<N)(hx:ev s x=some (.oelt wd i n off))(hl:zea (zac s (2*i+1))=some (wd',rows))(hw:Nat.beq wd wd'=true)(ht:C.ti t=some ti)(ha:ti.agg=false)(hn:rows[n]?=some row)(hz:row[off]?=some z) :
  AOp C N ⟨some d,.load t x,ty,pos,af,g⟩ (rds x++[2*i+1]) s [(2*d,.av z)] :=
 zau hd λw0 E s' a w hR hr=>by
  have hw:=kaj hw;subst hw;have hx':=zat hR (λ_ h=>by simp [h]) hx;have hl':zea (zac s' (2*i+1))=some (wd,rows):=by rw [hR _ od];exact hl
  have h1:=hr.ev hx';generalize he:a.eval x=v at h1;cases h1 with
  | oelt _ _ _ _ gg l c hg =>
    rcases zjk (λk hk=>hr.mem i k hk) hl' with ⟨h2,_⟩|⟨b,o,cap,h2,h3⟩
    .rw [h2] at hg;cases hg
    .rw [h2] at hg;simp only [Value.slice.injEq,kap,Addr.mk.injEq] at hg;obtain⟨⟨rfl,rfl,_⟩,_,_⟩:=hg;obtain⟨v,h4,h5,h6,h7⟩:=h3.get n row off z hn hz;exact⟨_,zee he (zim oA (oa h6)),h7,by rw [h4];simp⟩
def ziw:zbf->Nat->Option (List AV)
 | [],_=>none
 | (k,c)::l,n=>bif Nat.beq k n then some c else ziw l n
theorem ziv:∀{G:zbf} {n:Nat} {c:List AV},ziw G n=some c->(n,c)∈G
 | [],_,_,h=>by cases h
 | (k,c)::l,n,c',h=>by
   simp only [ziw] at h;cases hb:Nat.beq k n with
   | true=>rw [hb] at h;cases h;rw [kaj hb];simp
   | false=>rw [hb] at h;exact kdh _ (ziv h)
theorem znb{b off:Nat}{xs:List AV}{z:AV}(hd:d<N)(hx:ev s x=some (.val (.pointer (some ⟨b,off,none⟩))))(hl:ziw C.G b=some xs)(ht:C.ti t=some ti)(ha:ti.agg=false)(hz:xs[off]?=some z) :
  AOp C N ⟨some d,.load t x,ty,pos,af,g⟩ (rds x) s [(2*d,.av z)] :=
 zau hd λw0 E s' a w hR hr=>by have hx':=zat hR (λ_ h=>h) hx;have he:=(hr.ev hx').val_eq;obtain⟨h1,h2,val,h3⟩:=hr.glb _ (ziv hl);exact⟨_,zee he (zim oA (h3 off z hz).1),(h3 off z hz).2,by rw [(h2 z (kag hz)).1];simp⟩
theorem zxa{b off:Nat}{xs:List AV}(hd:d<N)(hx:ev s x=some (.val (.pointer (some ⟨b,off,none⟩))))(hl:ziw C.G b=some xs)(ht:C.ti t=some ti)(ha:ti.agg=true)(hz:off+ti.size<=xs.length) :
  AOp C N ⟨some d,.load t x,ty,pos,af,g⟩ (rds x) s [(2*d,.av (.agg ((xs.drop off).take ti.size)))] :=
 zau hd λw0 E s' a w hR hr=>by
  have hx':=zat hR (λ_ h=>h) hx;have he:=(hr.ev hx').val_eq;obtain⟨h1,h2,val,h3⟩:=hr.glb _ (ziv hl);obtain⟨us,hru,hrep⟩:=zkz (P:=C.P) (E:=E) (w:=w) (b:=b) (o:=off) (size:=ti.size) (xs:=(xs.drop off).take ti.size) oy λj y hy=>by
   rw [ka5] at hy;split at hy
   .rw [kbb] at hy;exact⟨_,(h3 _ y hy).1,(h3 _ y hy).2⟩
   .cases hy
  refine⟨_,zee he (zl2 oA (Cx.ti_size ht w) hru),.agg _ _ hrep.1 hrep.2,λk hk=>?_⟩;have:=zpy oI;obtain⟨q,hq,hk⟩:=zal.1 this;rw [(h2 q hq).1] at hk;cases hk
end ops
section rel
variable{G:zbf}{N:Nat}{w0:zfq}{s:AS}{a:Act}{w:World}{E:Env}
theorem Rel.congr{s':AS}(h:Rel G N w0 s a w E)(e:∀k,zac s' k=zac s k):Rel G N w0 s' a w E :=
 ⟨h.sz,h.df,h.dfo,λt x hx=>h.tmp t x (by rw [<-e];exact hx),λid c hc=>h.mem id c oO,λi j b hij hb=>by rw [e] at hb |-;exact h.dis i j b hij hb,
   λi b hb=>by rw [e] at hb;exact h.new i b hb,h.imm,h.ext,h.old,λk c hk i hi=>by rw [e] at hk |-;exact h.scp k c hk i hi,h.glb⟩
theorem Rel.setmem{i:Nat}{c:za7}(h:Rel G N w0 s a w E)(hm:zic E w0.base w i c)
  (hb:∀b,blk E i (some c)=some b->z3p w0 b/\¬E.imm b/\b<w.heap.size/\∀j,j≠i->blk E j (zac s (2*j+1))≠some b)
  (hs:∀k∈c.ids,zac s (2*k+1)≠none\/k=i):Rel G N w0 ((2*i+1,c)::s) a w E:=by
 have hne:∀j,j≠i->zac ((2*i+1,c)::s) (2*j+1)=zac s (2*j+1):=λj hj=>by rw [zaa,if_neg oc]
 have heq:zac ((2*i+1,c)::s) (2*i+1)=some c:=by rw [zaa,if_pos rfl]
 refine⟨h.sz,h.df,h.dfo,λt x hx=>h.tmp t x oH,λid c' hc=>?_,λj k b hjk hb1=>?_,λj b hb1=>?_,h.imm,h.ext,h.old,λk c' hk j hj=>?_,h.glb⟩
 .by_cases e:id=i
  .subst e;rw [heq] at hc;cases hc;exact hm
  .rw [hne id e] at hc;exact h.mem id c' hc
 .by_cases e:j=i
  .subst e;rw [heq] at hb1;rw [hne k (Ne.symm hjk)];exact(hb b hb1).2.2.2 k (Ne.symm hjk)
  .rw [hne j e] at hb1;by_cases f:k=i
   .subst f;rw [heq];intro hb2;exact(hb b hb2).2.2.2 j e hb1
   .rw [hne k f];exact h.dis j k b hjk hb1
 .by_cases e:j=i
  .subst e;rw [heq] at hb1;exact⟨(hb b hb1).1,(hb b hb1).2.1,(hb b hb1).2.2.1⟩
  .rw [hne j e] at hb1;exact h.new j b hb1
 .have hlook:zac s (2*j+1)≠none\/j=i:=by
    rw [zaa] at hk;split at hk
    .cases hk;exact hs j hj
    .exact .inl (h.scp k c' hk j hj)
  by_cases e:j=i
  .subst e;rw [heq];simp
  .rw [hne j e];exact hlook.resolve_right e
theorem Rel.kill(h:Rel G N w0 s a w E)(i:Nat):Rel G N w0 ((2*i+1,.dead)::s) a w E :=
 h.setmem trivial (λb hb=>by simp [blk] at hb) λk hk=>by simp [za7.ids] at hk
theorem zmf{i k:Nat}{c c':za7}:zac ((2*i+1,c)::(2*i+1,c')::s) k=zac ((2*i+1,c)::s) k:=by simp only [zaa];split<;>rfl
theorem Rel.grow{w':World}(h:Rel G N w0 s a w E)(hb:Below w.heap.size w w'):Rel G N w0 s a w' E :=
 h.step (λ_ h=>h) (λb hbi o v hc=>by rw [World.cell?_of_block (w:=w) (a:=⟨b,o,none⟩) (hb.block b (h.imm b hbi))];exact hc) (λ_ _=>⟨rfl,rfl⟩)
  (λi b hbl=>⟨hb.block b (h.new i b hbl).2.2,(h.new i b hbl).2.1⟩) (λb hbi=>kaf (h.imm b hbi) hb.size) hb.size (h.ext.grow hb) h.old (hdd:=λD hD=>(hb.block D (kad.1 hD).1).trans hD)
theorem Rel.write{i:Nat}{T:TypeId}{xs ys:List AV}{us:List Value}(h:Rel G N w0 s a w E)(hl:zac s (2*i+1)=some (.cells T xs))(hr:yf1 E w ys us)(ha:∀y∈ys,y.atom=true)(hs:∀k∈zbb ys,zac s (2*k+1)≠none) :
  Rel G N w0 ((2*i+1,.cells T ys)::s) a (w.setRow (E.mem i) us.toArray) E:=by
 obtain⟨vs,h1,h2,h3⟩:=h.mem i _ hl
 have hblk:blk E i (zac s (2*i+1))=some (E.mem i):=by rw [hl];rfl
 obtain⟨n1,n2,n3⟩:=h.new i _ hblk
 have hother:∀b,b≠E.mem i->(w.setRow (E.mem i) us.toArray).heap[b]?=w.heap[b]?:=λb hb=>setRow_other w _ b _ hb
 have hk:zdy E w (w.setRow (E.mem i) us.toArray):=λb hb o v hc=>by rw [World.cell?_of_block (w:=w) (a:=⟨b,o,none⟩) (hother b λe=>n2 (e▸hb))];exact hc
 have hd:=(h.kill i).step (E':=E) (w':=w.setRow (E.mem i) us.toArray) (λ_ h=>h) hk (λ_ _=>⟨rfl,rfl⟩) (λj b hbl=>by
  by_cases e:j=i
  .subst e;rw [zaa,if_pos rfl] at hbl;simp [blk] at hbl
  .rw [zaa,if_neg oc] at hbl;exact⟨hother b λe2=>h.dis i j (E.mem i) (Ne.symm e) hblk (by rw [hbl,e2]),(h.new j b hbl).2.1⟩)
  (λb hb=>by rw [setRow_size];exact h.imm b hb) (by rw [setRow_size];exact kac _)
  (h.ext.wr ⟨rfl,rfl,rfl,by rw [setRow_size];exact kac _,λk hk=>oc⟩ λk hk hn=>hother k λe=>hn (e▸(n1.2 (e▸hk)).1)) h.old (hdd:=λD hD=>(hother D λe=>by rw [e,h1] at hD;cases hD).trans hD)
 refine(hd.setmem (i:=i) (c:=.cells T ys) ⟨us,setRow_heap w _ _ _ T _ h1,hr.step (λ_ h=>h) hk (λ_ _=>⟨rfl,rfl⟩),ha⟩ (λb hb=>?_) λk hk2=>?_).congr λk=>(zmf).symm
 .simp only [blk,kap] at hb;subst hb;refine⟨n1,n2,by rw [setRow_size];exact n3,λj hj=>?_⟩;rw [zaa,if_neg oc];exact h.dis i j _ (Ne.symm hj) hblk
 .by_cases e:k=i
  .exact .inr e
  .rw [zaa,if_neg oc];exact .inl (hs k hk2)
def Env.memAt(E:Env)(i b:Nat):Env:={ E with mem:=λj=>if j=i then b else E.mem j }
def Env.bufAt(E:Env)(i:Nat)(v:Value):Env:={ E with buf:=λj=>if j=i then v else E.buf j }
theorem Rel.fresh_blk(h:Rel G N w0 s a w E)(j:Nat):blk E j (zac s (2*j+1))≠some w.heap.size:=λhb=>by have:=(h.new j _ hb).2.2;omega
theorem Rel.alloc{i:Nat}{T:TypeId}{xs:List AV}{vs:List Value}(h:Rel G N w0 s a w E)(hf:zac s (2*i+1)=none)(hr:yf1 E w xs vs)(ha:∀x∈xs,x.atom=true)(hs:∀k∈zbb xs,zac s (2*k+1)≠none) :
  Rel G N w0 ((2*i+1,.cells T xs)::s) a (w.alloc (.cells vs.toArray T)) (E.memAt i w.heap.size):=by
 have hb:=Below.alloc (Below.refl w.heap.size w) (kac _) (.cells vs.toArray T)
 have hk:zdy E w (w.alloc (.cells vs.toArray T)):=λb hbi o v hc=>by rw [World.cell?_of_block (w:=w) (a:=⟨b,o,none⟩) (hb.block b (h.imm b hbi))];exact hc
 have hid:∀j,zac s (2*j+1)≠none->(E.memAt i w.heap.size).mem j=E.mem j/\(E.memAt i w.heap.size).buf j=E.buf j:=λj hj=>⟨by simp only [Env.memAt];rw [if_neg (λe:j=i=>hj (by rw [e];exact hf))],rfl⟩
 have h2:=h.step (E':=E.memAt i w.heap.size) (w':=w.alloc (.cells vs.toArray T)) (λ_ h=>h) hk hid
  (λj b hbl=>⟨hb.block b (h.new j b hbl).2.2,(h.new j b hbl).2.1⟩) (λb hbi=>kaf (h.imm b hbi) hb.size) hb.size (h.ext.grow hb) h.old (hdd:=λD hD=>(hb.block D (kad.1 hD).1).trans hD)
 refine h2.setmem ⟨vs,?_,yf1.step (E:=E) (E':=E.memAt i w.heap.size) (λ_ h=>h) hk hr (λk hk=>hid k (hs k hk)),ha⟩ (λb hbl=>?_) λk hk=>.inl (hs k hk)
 .simp only [Env.memAt,if_true];exact heap_alloc_new w _
 .simp only [blk,Env.memAt,if_true,kap] at hbl;subst hbl;refine⟨z3p.fresh h.ext (kac _),λhi=>absurd (h.imm _ hi) (kdz _),od,λj hj hbl=>?_⟩;refine h.fresh_blk j ?_;rw [<-hbl];cases hl:zac s (2*j+1) with
  | none=>rfl
  | some c=>cases c<;>simp [blk,Env.memAt,hj]
theorem Rel.addbuf{w':World}{i wd:Nat}{T:TypeId}{rows:List (List AV)}{vs:List Value}{v:Value}(h:Rel G N w0 s a w E)(hf:zac s (2*i+1)=none)(hb:Below w.heap.size w w')
  (ho:w'.ownsRow w0.base T wd v rows.length vs) (hv:∀b,v.ownBlock=some b->w.heap.size<=b) (hr:yf1 E w rows.flatten vs) (hrow:∀row∈rows,row.length=wd/\∀x∈row,x.ids=[]/\x.atom=true) :
  Rel G N w0 ((2*i+1,.buf wd T rows)::s) a w' (E.bufAt i v):=by
 have hk:zdy E w w':=λb hbi o v hc=>by rw [World.cell?_of_block (w:=w) (a:=⟨b,o,none⟩) (hb.block b (h.imm b hbi))];exact hc
 have hid:∀j,zac s (2*j+1)≠none->(E.bufAt i v).mem j=E.mem j/\(E.bufAt i v).buf j=E.buf j:=λj hj=>⟨rfl,by simp only [Env.bufAt];rw [if_neg (λe:j=i=>hj (by rw [e];exact hf))]⟩
 have h2:=h.step (E':=E.bufAt i v) (w':=w') (λ_ h=>h) hk hid
  (λj b hbl=>⟨hb.block b (h.new j b hbl).2.2,(h.new j b hbl).2.1⟩) (λb hbi=>kaf (h.imm b hbi) hb.size) hb.size (h.ext.grow hb) h.old (hdd:=λD hD=>(hb.block D (kad.1 hD).1).trans hD)
 refine h2.setmem ⟨hrow,vs,?_,yf1.step (E:=E) (E':=E.bufAt i v) (λ_ h=>h) hk hr (λk hk=>?_)⟩ (λb hbl=>?_) λk hk=>by simp [za7.ids] at hk
 .simp only [Env.bufAt,if_true];exact ho
 .obtain⟨x,hx,hxk⟩:=zal.1 hk;obtain⟨row,hr1,hr2⟩:=kci.1 hx;rw [((hrow row hr1).2 x hr2).1] at hxk;cases hxk
 .simp only [blk,Env.bufAt,if_true] at hbl;have hge:=hv b hbl;refine⟨z3p.fresh h.ext hge,λhi=>absurd (h.imm _ hi) oc,(ho.lt b hbl).2,λj hj hbl2=>?_⟩;have:blk E j (zac s (2*j+1))=some b:=by
    rw [<-hbl2];cases hl:zac s (2*j+1) with
    | none=>rfl
    | some c=>cases c<;>simp [blk,Env.bufAt,hj]
  have:=(h.new j b this).2.2;omega
theorem Rel.regrow{w':World}{i j wd wd':Nat}{T T':TypeId}{rows rows':List (List AV)}{vs:List Value}{v:Value}(h:Rel G N w0 s a w E)(hl:zac s (2*i+1)=some (.buf wd T rows))(hf:zac s (2*j+1)=none)(hg:w.grownBy w' (E.buf i).ownBlock)
  (ho:w'.ownsRow w0.base T' wd' v rows'.length vs) (hat:v.ownBlock=(E.buf i).ownBlock\/v.ownBlock=some w.heap.size) (hr:yf1 E w rows'.flatten vs) (hrow:∀row∈rows',row.length=wd'/\∀x∈row,x.ids=[]/\x.atom=true) :
  Rel G N w0 ((2*j+1,.buf wd' T' rows')::(2*i+1,.dead)::s) a w' (E.bufAt j v):=by
 have hij:j≠i:=λe=>by subst e;rw [hf] at hl;cases hl
 have hblk:∀b,(E.buf i).ownBlock=some b->z3p w0 b/\¬E.imm b/\b<w.heap.size:=λb hb=>h.new i b (by rw [hl];exact hb)
 have hcel:∀b,(E.buf i).ownBlock=some b->∃cs T2,w.heap[b]?=some (.cells cs T2 (0,0)):=λb hb=>by
  obtain⟨_,vs2,⟨_,ho2⟩,_⟩:=h.mem i _ hl;rcases ho2 with ⟨e,_⟩|⟨g,cap,cur,e,_,e2,_⟩
  .rw [e] at hb;cases hb
  .rw [e] at hb;cases hb;exact⟨_,_,e2⟩
 have hk:zdy E w w':=λb hbi o v hc=>by rw [World.cell?_of_block (w:=w) (a:=⟨b,o,none⟩) (hg.block b (h.imm b hbi) λe=>(hblk b e.symm).2.1 hbi)];exact hc
 have hid:∀k,zac ((2*i+1,za7.dead)::s) (2*k+1)≠none->(E.bufAt j v).mem k=E.mem k/\(E.bufAt j v).buf k=E.buf k:=λk hk=>⟨rfl,by
  simp only [Env.bufAt];rw [if_neg];intro e;subst e;rw [zaa,if_neg oc] at hk;exact hk hf⟩
 have h2:=(h.kill i).step (E':=E.bufAt j v) (w':=w') (λ_ h=>h) hk hid (λk b hbl=>by
  by_cases e:k=i
  .subst e;rw [zaa,if_pos rfl] at hbl;simp [blk] at hbl
  .rw [zaa,if_neg oc] at hbl;exact⟨hg.block b (h.new k b hbl).2.2 λe2=>h.dis i k b (Ne.symm e) (by rw [hl];exact e2.symm) hbl,(h.new k b hbl).2.1⟩)
  (λb hbi=>kaf (h.imm b hbi) hg.size) hg.size (h.ext.wr ⟨hg.os,hg.tape,hg.output,hg.size,λk hk=>oc⟩ λk hk hn=>hg.block k (kaf hk h.ext.size) λe=>hn ((hblk k e.symm).1.2 hk).1) h.old (hdd:=λD hD=>(hg.block D (kad.1 hD).1 λe=>by
   obtain⟨cs,T2,hcs⟩:=hcel D e.symm;rw [hcs] at hD;cases hD).trans hD)
 refine h2.setmem ⟨hrow,vs,?_,yf1.step (E:=E) (E':=E.bufAt j v) (λ_ h=>h) hk hr (λk hk=>?_)⟩ (λb hbl=>?_) λk hk=>by simp [za7.ids] at hk
 .simp only [Env.bufAt,if_true];exact ho
 .obtain⟨x,hx,hxk⟩:=zal.1 hk;obtain⟨row,hr1,hr2⟩:=kci.1 hx;rw [((hrow row hr1).2 x hr2).1] at hxk;cases hxk
 .simp only [blk,Env.bufAt,if_true] at hbl;refine⟨?_,λhi=>?_,(ho.lt b hbl).2,λk hkj hbl2=>?_⟩
  .rcases hat with e|e
   .exact(hblk b (e▸hbl)).1
   .rw [e] at hbl;cases hbl;exact z3p.fresh h.ext (kac _)
  .rcases hat with e|e
   .exact(hblk b (e▸hbl)).2.1 hi
   .rw [e] at hbl;cases hbl;exact absurd (h.imm _ hi) (kdz _)
  .by_cases e:k=i
   .subst e;rw [zaa,if_pos rfl] at hbl2;simp [blk] at hbl2
   .rw [zaa,if_neg oc] at hbl2;have h3:blk E k (zac s (2*k+1))=some b:=by
      rw [<-hbl2];cases hl2:zac s (2*k+1) with
      | none=>rfl
      | some c=>cases c<;>simp [blk,Env.bufAt,hkj]
    rcases hat with e2|e2
    .exact h.dis i k b (Ne.symm e) (by rw [hl];exact e2.symm.trans hbl) h3
    .rw [e2] at hbl;cases hbl;exact h.fresh_blk k h3
theorem Rel.addimm{cs:Array Value}{T:TypeId}(h:Rel G N w0 s a w E):Rel G N w0 s a (w.alloc (.cells cs T)) { E with imm:=λb=>E.imm b\/b=w.heap.size }:=by
 have hb:=Below.alloc (Below.refl w.heap.size w) (kac _) (.cells cs T);have hk:zdy E w (w.alloc (.cells cs T)):=λb hbi o v hc=>by rw [World.cell?_of_block (w:=w) (a:=⟨b,o,none⟩) (hb.block b (h.imm b hbi))];exact hc
 exact h.step (E':={ E with imm:=λb=>E.imm b\/b=w.heap.size }) (λ_ h=>.inl h) hk (λ_ _=>⟨rfl,rfl⟩) (λj b hbl=>⟨hb.block b (h.new j b hbl).2.2,λhi=>hi.elim (h.new j b hbl).2.1 λe=>h.fresh_blk j (e▸hbl)⟩)
  (λb hbi=>by rcases hbi with h1|h1;exact kaf (h.imm b h1) hb.size;subst h1;simp) hb.size (h.ext.grow hb) (λb hbi hlt=>hbi.elim (λh1=>h.old b h1 hlt) λe=>by have:=h.ext.size;omega) (hdd:=λD hD=>(hb.block D (kad.1 hD).1).trans hD)
end rel
def Cx.esl(C:Cx)(t:Nat):Option Nat :=
 match C.ti t with
 | some ⟨_,_,_,_,.sl e⟩=>match C.ti e with
   | some j=>some j.size
   | none=>none
 | _=>none
def Cx.ear(C:Cx)(t:Nat):Option (Nat×Nat) :=
 match C.ti t with
 | some ⟨_,_,_,_,.ar n e⟩=>match C.ti e with
   | some j=>some (n,j.size)
   | none=>none
 | _=>none
theorem Cx.esl_of{C:Cx}{t wd:Nat}(h:C.esl t=some wd):∃e,C.P.underlying t=some (.slice e)/\∃j,C.ti e=some j/\j.size=wd:=by
 unfold Cx.esl at h;split at h
 .rename_i e ht;split at h
  .rename_i j hj;cases h;exact⟨e,Cx.under_sl ht rfl,j,hj,rfl⟩
  .cases h
 .cases h
theorem Cx.ear_of{C:Cx}{t n wd:Nat}(h:C.ear t=some (n,wd)):∃e,C.P.underlying t=some (.array n e)/\∃j,C.ti e=some j/\j.size=wd:=by
 unfold Cx.ear at h;split at h
 .rename_i e ht;split at h
  .rename_i j hj;cases h;exact⟨e,Cx.under_ar ht rfl,j,hj,rfl⟩
  .cases h
 .cases h
section ops
variable{C:Cx}{N:Nat}{s:AS}{d:Nat}{ty:TypeId}{pos:String}{af:Array Edge}{g:Option (Nat×Bool)}{x y:Operand}{t:TypeId}{ti:TI}{k:IntKind}{q:Int}{n:Nat}
theorem zdo{w:World}{b o len c wd:Nat}(h:C.esl t=some wd)(hq:q=(n:Int))(hn:n<len):(Instr.indexAt t (.slice (some ⟨b,o,none⟩) len c) (.int k q)).run C.P w=.ok (.pointer (some ⟨b,o+n*wd,none⟩)) w:=by
 obtain⟨e,hu,j,hj,hw⟩:=Cx.esl_of h;subst hq;have hsz:=Cx.ti_size hj w;rw [hw] at hsz;have h1:(0:Int)<=(n:Int)/\(n:Int)<(len:Int):=oc
 simp [Instr.indexAt,asIntOf,run_underlying hu,hsz,h1,Addr.add_at];intro hh;omega
theorem zex{w:World}{b o m wd:Nat}(h:C.ear t=some (m,wd))(hq:q=(n:Int))(hn:n<m):(Instr.indexAt t (.pointer (some ⟨b,o,none⟩)) (.int k q)).run C.P w=.ok (.pointer (some ⟨b,o+n*wd,none⟩)) w:=by
 obtain⟨e,hu,j,hj,hw⟩:=Cx.ear_of h;subst hq;have hsz:=Cx.ti_size hj w;rw [hw] at hsz;have h1:(0:Int)<=(n:Int)/\(n:Int)<(m:Int):=oc
 simp [Instr.indexAt,asIntOf,run_underlying hu,hsz,h1,Addr.add_at,Instr.sureAddr];intro hh;omega
theorem zdj{P:Program}{ρ:Operand->Value}{w w':World}{u u' v:Value}(hx:ρ x=u)(hy:ρ y=u')(h:(Instr.indexAt t u u').run P w=.ok v w'):(execOp ρ ⟨some d,.indexAddr t x y,ty,pos,af,g⟩).run P w=.ok (.value v) w':=by simp only [execOp,hx,hy,Sem.run_bind,h,Result.andThen_ok,Sem.run_pure]
theorem z3g{wd:Nat}{xs:List (List AV)}(hd:d<N)(hx:ev s x=some (.sl wd xs))(hy:ev s y=some (.val (.int k q)))(ht:C.esl t=some wd)(hq:q=(n:Int))(hn:n<xs.length) :
  AOp C N ⟨some d,.indexAddr t x y,ty,pos,af,g⟩ (rds x++rds y) s [(2*d,.av (.elt wd xs n 0))] :=
 zau hd λw0 E s' a w hR hr=>by
  have hx':=zat hR (λ_ h=>by simp [h]) hx;have he2:=(hr.ev (zat hR (λ_ h=>by simp [h]) hy)).val_eq;have h1:=hr.ev hx';generalize he:a.eval x=v at h1;cases h1 with
  | nil=>simp at hn
  | sl _ _ b o c val hb hw hc h=>exact⟨_,zdj he he2 (zdo ht hq hn),.elt wd xs b o n 0 val hb hw hc h,by simp [AV.ids]⟩
theorem zxd{wd i:Nat}{T:TypeId}{rows:List (List AV)}(hd:d<N)(hx:ev s x=some (.own i))(hl:zac s (2*i+1)=some (.buf wd T rows))(hy:ev s y=some (.val (.int k q)))(ht:C.esl t=some wd)(hq:q=(n:Int))(hn:n<rows.length) :
  AOp C N ⟨some d,.indexAddr t x y,ty,pos,af,g⟩ (rds x++rds y++[2*i+1]) s [(2*d,.av (.oelt wd i n 0))] :=
 zau hd λw0 E s' a w hR hr=>by
  have hx':=zat hR (λ_ h=>by simp [h]) hx;have he2:=(hr.ev (zat hR (λ_ h=>by simp [h]) hy)).val_eq;have he:=zda (hr.ev hx');have hl':zac s' (2*i+1)=some (.buf wd T rows):=(hR _ od).trans hl;have hids:∀j∈(AV.oelt wd i n 0).ids,zac s' (2*j+1)≠none:=λj hj=>hr.ev_scp hx' j oQ;obtain⟨h1,vs,⟨h2,h3⟩,h4⟩:=hr.mem i _ hl'
  rcases h3 with ⟨h3,h5⟩|⟨gg,cap,cur,h3,h5,h6,h7,h8,h9,h10⟩
  .omega
  .exact⟨_,zdj (he.trans h3) he2 (zdo ht hq hn),by simpa using Rep.oelt wd i n 0 gg _ cap h3,hids⟩
theorem zxc{i off m wd:Nat}(hd:d<N)(hx:ev s x=some (.ptr i off))(hy:ev s y=some (.val (.int k q)))(ht:C.ear t=some (m,wd))(hq:q=(n:Int))(hn:n<m) :
  AOp C N ⟨some d,.indexAddr t x y,ty,pos,af,g⟩ (rds x++rds y) s [(2*d,.av (.ptr i (off+n*wd)))] :=
 zau hd λw0 E s' a w hR hr=>by
  have hx':=zat hR (λ_ h=>by simp [h]) hx;have he2:=(hr.ev (zat hR (λ_ h=>by simp [h]) hy)).val_eq;have h1:=hr.ev hx';generalize he:a.eval x=v at h1;cases h1 with
  | ptr=>exact⟨_,zdj he he2 (zex ht hq hn),.ptr i _,λk hk=>hr.ev_scp hx' k oI⟩
theorem zxf{wd m' off m wd':Nat}{xs:List (List AV)}(hd:d<N)(hx:ev s x=some (.elt wd xs m' off))(hy:ev s y=some (.val (.int k q)))(ht:C.ear t=some (m,wd'))(hq:q=(n:Int))(hn:n<m) :
  AOp C N ⟨some d,.indexAddr t x y,ty,pos,af,g⟩ (rds x++rds y) s [(2*d,.av (.elt wd xs m' (off+n*wd')))] :=
 zau hd λw0 E s' a w hR hr=>by
  have hx':=zat hR (λ_ h=>by simp [h]) hx;have he2:=(hr.ev (zat hR (λ_ h=>by simp [h]) hy)).val_eq;have h1:=hr.ev hx';generalize he:a.eval x=v at h1;cases h1 with
  | elt _ _ b o _ _ val hb hw hc h=>exact⟨_,zdj he he2 (zex ht hq hn),by rw [kdb _ off];exact .elt wd xs b o m' _ val hb hw hc h,by simp [AV.ids]⟩
theorem zxe{b off m wd:Nat}(hd:d<N)(hx:ev s x=some (.val (.pointer (some ⟨b,off,none⟩))))(hy:ev s y=some (.val (.int k q)))(ht:C.ear t=some (m,wd))(hq:q=(n:Int))(hn:n<m) :
  AOp C N ⟨some d,.indexAddr t x y,ty,pos,af,g⟩ (rds x++rds y) s [(2*d,.av (.val (.pointer (some ⟨b,off+n*wd,none⟩))))] :=
 zb2 hd hx hy λ_ρ _w e1 e2=>zdj e1 e2 (zex ht hq hn)
theorem zi1{P:Program}{ρ:Operand->Value}{w w':World}{u v:Value}(hx:ρ x=u)(h:(Builtin.len_ #[t] ty #[u]).run P w=.ok v w'):(execOp ρ ⟨some d,.call { callee:=.builtin .len,args:=#[x],argTypes:=#[t] },ty,pos,af,g⟩).run P w=.ok (.value v) w':=by simp [execOp,resolve,invoke,builtin,hx,h]
theorem ze7{w:World}{e:Nat}{b:Option Addr}{len c:Nat}(hu:C.P.underlying t=some (.slice e)):(Builtin.len_ #[t] ty #[.slice b len c]).run C.P w=.ok (.int .i64 len) w:=by simp [Builtin.len_,run_underlying hu,goInt]
def Cx.isl(C:Cx)(t:Nat):Bool :=
 match C.ti t with
 | some ⟨_,_,_,_,.sl _⟩=>true
 | _=>false
theorem Cx.isl_of(h:C.isl t=true):∃e,C.P.underlying t=some (.slice e):=by
 unfold Cx.isl at h;split at h
 .rename_i e ht;exact⟨e,Cx.under_sl ht rfl⟩
 .cases h
theorem a_len{wd:Nat}{xs:List (List AV)}(hd:d<N)(hx:ev s x=some (.sl wd xs))(ht:C.isl t=true) :
  AOp C N ⟨some d,.call { callee:=.builtin .len,args:=#[x],argTypes:=#[t] },ty,pos,af,g⟩ (rds x) s [(2*d,.av (.val (.int .i64 (xs.length:Int))))] :=
 zau hd λw0 E s' a w hR hr=>by
  obtain⟨e,hu⟩:=Cx.isl_of ht;have h1:=hr.ev (zat hR (λ_ h=>h) hx);generalize he:a.eval x=v at h1;cases h1 with
  | nil=>exact⟨_,zi1 he (ze7 hu),.val _,by simp [AV.ids]⟩
  | sl=>exact⟨_,zi1 he (ze7 hu),.val _,by simp [AV.ids]⟩
theorem z8t{i wd:Nat}{rows:List (List AV)}(hd:d<N)(hx:ev s x=some (.own i))(hl:zea (zac s (2*i+1))=some (wd,rows))(ht:C.isl t=true) :
  AOp C N ⟨some d,.call { callee:=.builtin .len,args:=#[x],argTypes:=#[t] },ty,pos,af,g⟩ (rds x++[2*i+1]) s [(2*d,.av (.val (.int .i64 (rows.length:Int))))] :=
 zau hd λw0 E s' a w hR hr=>by
  obtain⟨e,hu⟩:=Cx.isl_of ht;have he:=zda (hr.ev (zat hR (λ_ h=>by simp [h]) hx));have hl':zea (zac s' (2*i+1))=some (wd,rows):=by rw [hR _ od];exact hl
  rcases zjk (λk hk=>hr.mem i k hk) hl' with ⟨h2,h3⟩|⟨b,o,cap,h2,_⟩
  .subst h3;exact⟨_,zi1 (he.trans h2) (ze7 hu),.val _,by simp [AV.ids]⟩
  .exact⟨_,zi1 (he.trans h2) (ze7 hu),.val _,by simp [AV.ids]⟩
def cellsOf:AV->Option (List AV)
 | .agg xs=>some xs
 | .tup _=>none
 | x=>bif x.atom then some [x] else none
theorem zgn{E:Env}{w:World}{x:AV}{v:Value}{xs:List AV}(h:Rep E w x v)(hc:cellsOf x=some xs):yf1 E w xs v.cells.toList/\zbb xs=x.ids:=by
 have one:∀(hx:xs=[x]) (ho:v.oneCell'=true),yf1 E w xs v.cells.toList/\zbb xs=x.ids:=λhx ho=>by
  subst hx;refine⟨?_,by simp [zbb]⟩;have:v.cells=#[v]:=by cases v<;>first|rfl|cases ho
  rw [this];exact(yf1.nil E w).cons h
 by_cases hq:(∃ys,x=.agg ys)\/∃ys,x=.tup ys
 .rcases hq with ⟨ys,rfl⟩|⟨ys,rfl⟩
  .cases hc;cases h with
   | agg _ vs hl h=>exact⟨⟨by simpa [Value.cells] using hl,λi x v hx hv=>h i x v hx (by simpa [Value.cells] using hv)⟩,by simp [AV.ids]⟩
  .cases hc
 .have hx:cellsOf x=bif x.atom then some [x] else none:=by
    cases x<;>first|rfl|(exact absurd (.inl ⟨_,rfl⟩) hq)|(exact absurd (.inr ⟨_,rfl⟩) hq)
  rw [hx] at hc;cases ha:x.atom with
  | false=>rw [ha] at hc;cases hc
  | true=>rw [ha] at hc;cases hc;exact one rfl (h.one ha)
theorem zhl{xs:List AV}(h:xs.all AV.atom=true):∀x∈xs,x.atom=true:=kar.1 h
theorem z2v{op:Op}{T:TypeId}{xs:List AV}{R:List Nat}(hd:d<N)(hf:zac s (2*d+1)=none)(hR1:2*d+1∈R)(ha:xs.all AV.atom=true)
  (h:∀w0 E s' a w,(∀r∈R,zac s' r=zac s r)->Rel C.G N w0 s' a w E->∃vs,(execOp a.eval ⟨some d,op,ty,pos,af,g⟩).run C.P w=.ok (.value (.pointer (some ⟨w.heap.size,0,none⟩))) (w.alloc (.cells vs.toArray T))/\yf1 E w xs vs/\∀i∈zbb xs,zac s' (2*i+1)≠none) :
  AOp C N ⟨some d,op,ty,pos,af,g⟩ R s [(2*d,.av (.ptr d 0)),(2*d+1,.cells T xs)]:=by
 intro w0 E s' a w hR hr K Q hK
 obtain⟨vs,h1,h2,h3⟩:=h w0 E s' a w hR hr
 unfold Oper.wp
 rw [h1]
 have hr2:=hr.alloc (i:=d) (T:=T) ((hR _ hR1).trans hf) h2 (zhl ha) h3
 refine hK _ _ _ (hr2.put (x:=.ptr d 0) hd ?_ λi hi=>?_)
 .have:=Rep.ptr (E:=E.memAt d w.heap.size) (w:=w.alloc (.cells vs.toArray T)) d 0;simpa [Env.memAt] using this
 .simp [AV.ids] at hi;subst hi;rw [zaa,if_pos rfl];simp
theorem a_box{T:TypeId}{z:AV}{xs:List AV}(hd:d<N)(hx:ev s x=some z)(hc:cellsOf z=some xs)(ha:xs.all AV.atom=true)(hf:zac s (2*d+1)=none) :
  AOp C N ⟨some d,.box T x,ty,pos,af,g⟩ (rds x++[2*d+1]) s [(2*d,.av (.ptr d 0)),(2*d+1,.cells T xs)] :=
 z2v hd hf od ha λw0 E s' a w hR hr=>by have hx':=zat hR (λ_ h=>by simp [h]) hx;obtain⟨h1,h2⟩:=zgn (hr.ev hx') hc;refine⟨(a.eval x).cells.toList,?_,h1,λi hi=>hr.ev_scp hx' i (h2▸hi)⟩;simp only [execOp,Instr.box,newVar,newRow,Sem.run_bind,run_newObj_alloc,Result.andThen_ok,Sem.run_pure,ka9]
theorem yb5{T:TypeId}(hd:d<N)(ht:C.ti T=some ti)(ha:(ti.zero.map AV.val).all AV.atom=true)(hf:zac s (2*d+1)=none) :
  AOp C N ⟨some d,.alloc T,ty,pos,af,g⟩ [2*d+1] s [(2*d,.av (.ptr d 0)),(2*d+1,.cells T (ti.zero.map AV.val))] :=
 z2v hd hf od ha λw0 E s' a w hR hr=>by
  obtain⟨z,hz,hz2⟩:=Cx.ti_zero ht w;refine⟨z.cells.toList,?_,⟨by simp [hz2],λi x v hx hv=>?_⟩,λi hi=>?_⟩
  .simp only [execOp,Instr.alloc,newVar,newRow,Sem.run_bind,hz,run_newObj_alloc,Result.andThen_ok,Sem.run_pure,ka9]
  .rw [<-hz2,kaq,hv] at hx;cases hx
   exact .val v
  .obtain⟨x,hx,hi⟩:=zal.1 hi;obtain⟨v,_,rfl⟩:=kav.1 hx;simp [AV.ids] at hi
end ops
section ops
variable{C:Cx}{N:Nat}{s:AS}{d:Nat}{ty:TypeId}{pos:String}{af:Array Edge}{g:Option (Nat×Bool)}{x y:Operand}{t:TypeId}{ti:TI}
theorem zl1{P:Program}{w:World}{b o:Nat}{T:TypeId}{vs us:List Value}{v:Value}(hs:(sizeOf t).run P w=.ok us.length w)(hv:v.cells.toList=us)(h1:∀u∈us,u.oneCell'=true)(hg:w.heap[b]?=some (.cells vs.toArray T (0,0)))(hl:o+us.length<=vs.length) :
  (Instr.storeAt t (.pointer (some ⟨b,o,none⟩)) v).run P w=.ok () (w.setRow b (vs.take o++us++vs.drop (o+us.length)).toArray):=by
 have hst:=run_storeCells_at P b o T us 0 vs.toArray w hg (oa hl) h1
 simp only [kb1] at hst
 have hsz:v.cells.size=us.length:=by rw [<-hv];simp
 simp [Instr.storeAt,Instr.sureAddr,storeVar,hs,hsz,hv,hst]
theorem zor{P:Program}{ρ:Operand->Value}{w w':World}{u v:Value}(hx:ρ x=u)(hy:ρ y=v)(h:(Instr.storeAt t u v).run P w=.ok () w'):(execOp ρ ⟨none,.store t x y,ty,pos,af,g⟩).run P w=.ok .skip w':=by simp only [execOp,hx,hy,Sem.run_bind,h,Result.andThen_ok,Sem.run_pure]
theorem zlb{xs ys:List AV}{i:Nat}:i∈zbb (xs++ys)↔i∈zbb xs\/i∈zbb ys:=by
 simp only [zal,kax];constructor
 .rintro⟨x,h|h,hi⟩
  .exact .inl ⟨x,h,hi⟩
  .exact .inr ⟨x,h,hi⟩
 .rintro(⟨x,h,hi⟩|⟨x,h,hi⟩)
  .exact⟨x,.inl h,hi⟩
  .exact⟨x,.inr h,hi⟩
theorem zml{xs:List AV}{n i:Nat}(h:i∈zbb (xs.take n)):i∈zbb xs:=by obtain⟨x,hx,hi⟩:=zal.1 h;exact zal.2 ⟨x,kbz hx,hi⟩
theorem zmm{xs:List AV}{n i:Nat}(h:i∈zbb (xs.drop n)):i∈zbb xs:=by obtain⟨x,hx,hi⟩:=zal.1 h;exact zal.2 ⟨x,kby hx,hi⟩
def spl{α:Type}(xs:List α)(o:Nat)(zs:List α):List α:=xs.take o++zs++xs.drop (o+zs.length)
theorem zuw{i off:Nat}{T:TypeId}{xs zs:List AV}{z:AV}(hx:ev s x=some (.ptr i off))(hl:zac s (2*i+1)=some (.cells T xs))(hy:ev s y=some z)(hc:cellsOf z=some zs)(ht:C.ti t=some ti)(hz:Nat.beq ti.size zs.length=true)(ho:Nat.ble (off+zs.length) xs.length=true)(ha:zs.all AV.atom=true) :
  AOp C N ⟨none,.store t x y,ty,pos,af,g⟩ (rds x++rds y++[2*i+1]) s [(2*i+1,.cells T (spl xs off zs))]:=by
 intro w0 E s' a w hR hr K Q hK
 have hz:=kaj hz
 have ho:=kah ho
 have hx':=zat hR (λ_ h=>by simp [h]) hx
 have hy':=zat hR (λ_ h=>by simp [h]) hy
 have hl':zac s' (2*i+1)=some (.cells T xs):=(hR _ od).trans hl
 obtain⟨h1,h2⟩:=zgn (hr.ev hy') hc
 obtain⟨vs,h3,h4,h5⟩:=hr.mem i _ hl'
 have h6:=hr.ev hx'
 generalize he:a.eval x=u at h6
 cases h6 with
 | ptr =>
   have hlen:(a.eval y).cells.toList.length=zs.length:=h1.1.symm;have hone:∀u∈(a.eval y).cells.toList,u.oneCell'=true:=λu hu=>by
    obtain⟨j,hj,rfl⟩:=kcx.1 hu;have hj2:j<zs.length:=oc
    exact(h1.2 j _ _ (kaa hj2) (kaa hj)).one (zhl ha _ (kbf hj2))
   have hrun:=zl1 (P:=C.P) (t:=t) (v:=a.eval y) (o:=off) (us:=(a.eval y).cells.toList) (by rw [hlen,<-hz];exact Cx.ti_size ht w) rfl hone h3 (by rw [hlen,<-h4.1];exact ho);unfold Oper.wp;rw [zor he rfl hrun];refine hK _ _ E ?_;refine hr.write hl' (ys:=spl xs off zs) ?_ ?_ ?_
   .unfold spl;rw [hlen];exact((h4.take off).append h1).append (h4.drop _)
   .intro q hq;simp only [spl,kax] at hq;rcases hq with (hq|hq)|hq
    .exact h5 q (kbz hq)
    .exact zhl ha q hq
    .exact h5 q (kby hq)
   .intro k hk;simp only [spl,zlb] at hk;rcases hk with (hk|hk)|hk
    .exact hr.scp _ _ hl' k (zml hk)
    .exact hr.ev_scp hy' k (h2▸hk)
    .exact hr.scp _ _ hl' k (zmm hk)
theorem z9m{α:Type}{xs:List α}{o:Nat}{z:α}(h:o<xs.length):spl xs o [z]=xs.set o z:=by simp only [spl,List.length_singleton,kbg,List.cons_append,kdn];exact(List.set_eq_take_append_cons_drop .. |>.trans (if_pos h)).symm
theorem zw9{i off:Nat}{T:TypeId}{xs:List AV}{z:AV}(hx:ev s x=some (.ptr i off))(hl:zac s (2*i+1)=some (.cells T xs))(hy:ev s y=some z)(ht:C.ti t=some ti)(hz:Nat.beq ti.size 1=true)(ha:z.atom=true)(ho:off<xs.length) :
  AOp C N ⟨none,.store t x y,ty,pos,af,g⟩ (rds x++rds y++[2*i+1]) s [(2*i+1,.cells T (xs.set off z))]:=by
 have hc:cellsOf z=some [z]:=by cases z<;>first|rfl|(cases ha;done)|(simp [cellsOf,ha];done)
 have:=zuw (C:=C) (N:=N) (ty:=ty) (pos:=pos) (af:=af) (g:=g) hx hl hy hc ht (oa hz) (kcu ho) (by simp [ha])
 rw [z9m ho] at this
 exact this
theorem z9n{α:Type}(r F:List α)(m:Nat)(zs:List α):spl (r++F) (r.length+m) zs=r++spl F m zs:=by simp only [spl,List.take_length_add_append,kdb,List.drop_length_add_append,kbg]
theorem z9l{α:Type}(r F:List α)(m:Nat)(zs:List α)(h:m+zs.length<=r.length):spl (r++F) m zs=spl r m zs++F:=by simp only [spl,kbg];rw [List.take_append_of_le_length oc,List.drop_append_of_le_length oc]
theorem zia{wd off:Nat}{zs:List AV}(ho:off+zs.length<=wd):∀{rows:List (List AV)} {n:Nat} {row:List AV},(∀r∈rows,r.length=wd)->rows[n]?=some row->(rows.set n (spl row off zs)).flatten=spl rows.flatten (n*wd+off) zs
 | [],n,row,_,h=>by simp at h
 | r::rows,0,row,hw,h=>by simp at h;subst h;have:=hw r od;simp only [List.set_cons_zero,kcm,Nat.zero_mul,kb0];rw [z9l _ _ _ _ oc]
 | r::rows,n+1,row,hw,h=>by have h1:=hw r od;have ih:=zia ho (rows:=rows) (n:=n) (row:=row) (λr hr=>hw r (by simp [hr])) (oa h);simp only [List.set_cons_succ,kcm,ih];rw [<-z9n,h1,kct];congr 1;omega
theorem zzl{α:Type}{xs zs:List α}{o:Nat}(h:o+zs.length<=xs.length):(spl xs o zs).length=xs.length:=by simp [spl];omega
theorem z4f{α:Type}(xs zs:List α)(m k:Nat)(h1:m+zs.length<=k)(h2:m<=xs.length):(spl xs m zs).take k=spl (xs.take k) m zs:=by simp only [spl,kbg];rw [List.take_append,List.take_append,kcj,kcd h2,List.take_take,List.take_take,Nat.min_eq_right oc,kcd (by omega:m<=k),kb4 (by omega:zs.length<=k-m),List.drop_take,Nat.sub_sub]
theorem zpx{xs:List AV}(h:∀x∈xs,x.ids=[])(k:Nat):k∉zbb xs:=λhk=>by obtain⟨x,hx,hxk⟩:=zal.1 hk;rw [h x hx] at hxk;cases hxk
theorem Rel.writebuf{G:zbf}{w0:zfq}{a:Act}{w:World}{E:Env}{i wd off n:Nat}{T:TypeId}{rows:List (List AV)}{row zs:List AV}{us:List Value}(h:Rel G N w0 s a w E)(hl:zac s (2*i+1)=some (.buf wd T rows))(hn:rows[n]?=some row)(ho:off+zs.length<=wd)
  (hr:yf1 E w zs us) (ha:∀z∈zs,z.ids=[]/\z.atom=true):∃b l c vs,E.buf i=.slice (some ⟨b,0,none⟩) l c/\w.heap[b]?=some (.cells vs T (0,0))/\n*wd+off+zs.length<=vs.size/\
   Rel G N w0 ((2*i+1,.buf wd T (rows.set n (spl row off zs)))::s) a (w.setRow b (vs.toList.take (n*wd+off)++us++vs.toList.drop (n*wd+off+us.length)).toArray) E:=by
 obtain⟨h1,vs,⟨h2,h3⟩,h4⟩:=h.mem i _ hl
 have hlt:=(kab.1 hn).1
 rcases h3 with ⟨_,h5⟩|⟨b,cap,cur,h3,h5,h6,h7,h8,h9,h10⟩
 .omega
 .have hblk:blk E i (zac s (2*i+1))=some b:=by rw [hl];simp [blk,h3,Value.ownBlock]
  obtain⟨n1,n2,n3⟩:=h.new i _ hblk;have hul:us.length=zs.length:=hr.1.symm;have hle:n*wd+off+zs.length<=rows.length*wd:=by have:(n+1)*wd<=rows.length*wd:=kcy _ hlt;rw [kct] at this;omega
  have hcs:rows.length*wd<=cur.size:=by rw [h9];exact kcy _ h7
  refine⟨b,rows.length,cap,cur,h3,h6,oc,?_⟩;generalize hcs':(cur.toList.take (n*wd+off)++us++cur.toList.drop (n*wd+off+us.length))=new;have hother:∀k,k≠b->(w.setRow b new.toArray).heap[k]?=w.heap[k]?:=λk hk=>setRow_other w _ k _ hk;have hk:zdy E w (w.setRow b new.toArray):=λk hk o v hc=>by rw [World.cell?_of_block (w:=w) (a:=⟨k,o,none⟩) (hother k λe=>n2 (e▸hk))];exact hc
  have hd:=(h.kill i).step (E':=E) (w':=w.setRow b new.toArray) (λ_ h=>h) hk (λ_ _=>⟨rfl,rfl⟩) (λj k hbl=>by
   by_cases e:j=i
   .subst e;rw [zaa,if_pos rfl] at hbl;simp [blk] at hbl
   .rw [zaa,if_neg oc] at hbl;exact⟨hother k λe2=>h.dis i j b (Ne.symm e) hblk (by rw [hbl,e2]),(h.new j k hbl).2.1⟩)
   (λk hk=>by rw [setRow_size];exact h.imm k hk) (by rw [setRow_size];exact kac _)
   (h.ext.wr ⟨rfl,rfl,rfl,by rw [setRow_size];exact kac _,λk hk=>oc⟩ λk hk hn=>hother k λe=>hn (e▸(n1.2 (e▸hk)).1)) h.old (hdd:=λD hD=>(hother D λe=>by rw [e,h6] at hD;cases hD).trans hD)
  have hrows:∀r∈rows.set n (spl row off zs),r.length=wd/\∀x∈r,x.ids=[]/\x.atom=true:=λr hr=>by
   rcases kbh hr with hr|rfl
   .exact h1 r hr
   .have hrw:=h1 row (kag hn);refine⟨by rw [zzl oc];exact hrw.1,λx hx=>?_⟩;simp only [spl,kax] at hx;rcases hx with (hx|hx)|hx
    .exact hrw.2 x (kbz hx)
    .exact ha x hx
    .exact hrw.2 x (kby hx)
  refine(hd.setmem (i:=i) (c:=.buf wd T (rows.set n (spl row off zs))) ⟨hrows,spl vs (n*wd+off) us,⟨?_,.inr ⟨b,cap,new.toArray,?_,h5,setRow_heap w _ _ _ T _ h6,?_,h8,?_,?_⟩⟩,?_⟩ (λk hb=>?_) λk hk2=>by simp [za7.ids] at hk2).congr λk=>(zmf).symm
  .rw [zzl oc,h2,kcz]
  .rw [h3,kcz]
  .rw [kcz];exact h7
  .rw [<-hcs',<-h9];simp;omega
  .rw [kcz,<-hcs',<-h10];exact z4f cur.toList us (n*wd+off) (rows.length*wd) oc oy
  .rw [zia ho (λr hr=>(h1 r hr).1) hn];have hf:=zia ho (λr hr=>(h1 r hr).1) hn;refine yf1.step (E:=E) (w:=w) (λ_ h=>h) hk ?_ λk hk=>absurd hk (zpx (λx hx=>?_) k)
   .unfold spl;rw [hul];exact((h4.take _).append hr).append (h4.drop _)
   .rw [<-hf] at hx;obtain⟨r,hr1,hr2⟩:=kci.1 hx;exact((hrows r hr1).2 x hr2).1
  .have hb':b=k:=by simpa [blk,h3,Value.ownBlock] using hb
   subst hb';refine⟨n1,n2,by rw [setRow_size];exact n3,λj hj=>?_⟩;rw [zaa,if_neg oc];exact h.dis i j _ (Ne.symm hj) hblk
end ops
section ops
variable{C:Cx}{N:Nat}{s:AS}{d:Nat}{ty:TypeId}{pos:String}{af:Array Edge}{g:Option (Nat×Bool)}{x y:Operand}{t:TypeId}{ti:TI}
theorem zw8{wd i n off:Nat}{T:TypeId}{rows:List (List AV)}{row zs:List AV}{z:AV}(hx:ev s x=some (.oelt wd i n off))(hl:zac s (2*i+1)=some (.buf wd T rows))(hn:rows[n]?=some row)(hy:ev s y=some z)(hc:cellsOf z=some zs)(ht:C.ti t=some ti)(hz:Nat.beq ti.size zs.length=true)(ho:Nat.ble (off+zs.length) wd=true)(ha:zs.all AV.atom=true)(hi:z.ids=[]) :
  AOp C N ⟨none,.store t x y,ty,pos,af,g⟩ (rds x++rds y++[2*i+1]) s [(2*i+1,.buf wd T (rows.set n (spl row off zs)))]:=by
 intro w0 E s' a w hR hr K Q hK
 have hz:=kaj hz
 have ho:=kah ho
 have hx':=zat hR (λ_ h=>by simp [h]) hx
 have hy':=zat hR (λ_ h=>by simp [h]) hy
 have hl':zac s' (2*i+1)=some (.buf wd T rows):=(hR _ od).trans hl
 obtain⟨h1,h2⟩:=zgn (hr.ev hy') hc
 have hids:∀z∈zs,z.ids=[]:=λq hq=>by rw [hi] at h2;refine kc4.2 λk hk=>?_;have:=zal.2 ⟨q,hq,hk⟩;rw [h2] at this;cases this
 obtain⟨b,l,c,vs,h3,h4,h5,h6⟩:=hr.writebuf hl' hn ho h1 λq hq=>⟨hids q hq,zhl ha q hq⟩
 have h7:=hr.ev hx'
 generalize he:a.eval x=u at h7
 cases h7 with
 | oelt _ _ _ _ gg l' c' hg =>
   rw [h3] at hg;simp only [Value.slice.injEq,kap,Addr.mk.injEq] at hg;obtain⟨⟨rfl,_,_⟩,_,_⟩:=hg;have hlen:(a.eval y).cells.toList.length=zs.length:=h1.1.symm;have hone:∀u∈(a.eval y).cells.toList,u.oneCell'=true:=λu hu=>by
    obtain⟨j,hj,rfl⟩:=kcx.1 hu;have hj2:j<zs.length:=oc
    exact(h1.2 j _ _ (kaa hj2) (kaa hj)).one (zhl ha _ (kbf hj2))
   have hrun:=zl1 (P:=C.P) (t:=t) (v:=a.eval y) (o:=n*wd+off) (us:=(a.eval y).cells.toList) (vs:=vs.toList) (b:=b) (T:=T) (by rw [hlen,<-hz];exact Cx.ti_size ht w) rfl hone (oa h4) (by simp at hlen |-;omega);unfold Oper.wp;rw [zor he rfl hrun];exact hK _ _ E h6
def ztj(s:AS)(wd:Nat)(y:Operand):Option (List (List AV)) :=
 match ev s y with
 | some (.sl k rows)=>bif Nat.beq k wd then some rows else none
 | some (.own j)=>match zea (zac s (2*j+1)) with
   | some (k,rows)=>bif Nat.beq k wd then some rows else none
   | none=>none
 | some (.val (.slice none 0 0))=>some []
 | _=>none
def srcK(s:AS)(y:Operand):List Nat :=
 match ev s y with
 | some (.own j)=>[2*j+1]
 | _=>[]
theorem zzk{s':AS}{wd:Nat}{R:List Nat}(hR:∀r∈R,zac s' r=zac s r)(h1:∀r∈rds y,r∈R)(h2:∀r∈srcK s y,r∈R):ztj s' wd y=ztj s wd y:=by
 have he:=zas (s:=s) (s':=s') (x:=y) λr hr=>hR r (h1 r hr);unfold ztj;unfold srcK at h2;rw [he];split<;>rename_i hv<;>first|rfl|skip
 rw [hv] at h2;rw [hR _ (h2 _ od)]
theorem z9k{G:zbf}{w0:zfq}{a:Act}{w:World}{E:Env}{wd:Nat}{rows:List (List AV)}(h:Rel G N w0 s a w E)(hs:ztj s wd y=some rows) :
  (a.eval y=.slice none 0 0/\rows=[])\/∃b o c,a.eval y=.slice (some ⟨b,o,none⟩) rows.length c/\znh E w wd rows b o:=by
 unfold ztj at hs
 split at hs
 .rename_i k rows' hv;cases hb:Nat.beq k wd with
  | false=>rw [hb] at hs;cases hs
  | true =>
    rw [hb] at hs;cases hs
    have:=kaj hb;subst this;have h1:=h.ev hv;generalize a.eval y=v at h1;cases h1 with
    | nil=>exact .inl ⟨rfl,rfl⟩
    | sl _ _ b o c val hb hw hc h=>exact .inr ⟨b,o,c,rfl,hw,λi row j x hi hj=>⟨_,(hc i row j x hi hj).1,(hc i row j x hi hj).2.1,(hc i row j x hi hj).2.2,h i row j x hi hj⟩⟩
 .rename_i j hv;split at hs
  .rename_i k rows' hr;cases hb:Nat.beq k wd with
   | false=>rw [hb] at hs;cases hs
   | true =>
     rw [hb] at hs;cases hs
     have:=kaj hb;subst this;rw [zda (h.ev hv)];exact zjk (λc hc=>h.mem j c hc) hr
  .cases hs
 .rename_i hv;cases hs
  exact .inl ⟨(h.ev hv).val_eq,rfl⟩
 .cases hs
theorem zn2{E:Env}{w:World}{wd b o:Nat}:∀{rows:List (List AV)} {k:Nat},(∀r∈rows,r.length=wd)->(∀(i:Nat) row (j:Nat) x,rows[i]?=some row->row[j]?=some x->∃v,x.ids=[]/\x.atom=true/\w.cell? ⟨b,o+(k+i)*wd+j,none⟩=some v/\Rep E w x v)->
  ∃vs:List Value,vs.length=rows.length*wd/\(∀(j:Nat) u,vs[j]?=some u->w.cell? ⟨b,o+k*wd+j,none⟩=some u)/\yf1 E w rows.flatten vs/\∀u∈vs,u.oneCell'=true
 | [],k,_,_=>⟨[],od,λj u h=>by simp at h,yf1.nil E w,od⟩
 | r::rows,k,hw,h=>by
   obtain⟨vs,h1,h2,h3,h4⟩:=zn2 (rows:=rows) (k:=k+1) (λr hr=>hw r (by simp [hr])) λi row j x hi hj=>by have:=h (i+1) row j x (oa hi) hj;rwa [show k+(i+1)=k+1+i by omega] at this
   have hr:=hw r od;obtain⟨us,g1,g2,g3,g4⟩:∃us:List Value,us.length=wd/\(∀(j:Nat) u,us[j]?=some u->w.cell? ⟨b,o+k*wd+j,none⟩=some u)/\yf1 E w r us/\∀u∈us,u.oneCell'=true:=by
    have hget:∀j,j<wd->∃v,w.cell? ⟨b,o+k*wd+j,none⟩=some v/\v.oneCell'=true/\∀x,r[j]?=some x->Rep E w x v:=λj hj=>by obtain⟨v,q1,q2,q3,q4⟩:=h 0 r j _ rfl (kaa oc);exact⟨v,oa q3,q4.one q2,λx hx=>by rw [kaa oc] at hx;cases hx;exact q4⟩
    refine⟨(List.range wd).map λj=>(w.cell? ⟨b,o+k*wd+j,none⟩).getD undef,od,λj u hu=>?_,⟨by simp [hr],λj x v hx hv=>?_⟩,λu hu=>?_⟩
    .have hj:j<wd:=by simpa using (kab.1 hu).1
     obtain⟨v,q1,q2,_⟩:=hget j hj;simp [hj,q1] at hu;rw [q1,hu]
    .have hj:j<wd:=by have:=(kab.1 hx).1;omega
     obtain⟨v',q1,q2,q3⟩:=hget j hj;simp [hj,q1] at hv;exact hv▸q3 x hx
    .obtain⟨j,hj,rfl⟩:=kav.1 hu;obtain⟨v',q1,q2,q3⟩:=hget j (oa hj);simp [q1,q2]
   refine⟨us++vs,by simp [g1,h1,kct];omega,λj u hu=>?_,by simpa using g3.append h3,λu hu=>?_⟩
   .rcases kae j wd with hj|hj
    .rw [kam oc] at hu;exact g2 j u hu
    .rw [kao oc,g1] at hu;have:=h2 _ u hu;rwa [show o+(k+1)*wd+(j-wd)=o+k*wd+j by rw [kct];omega] at this
   .rcases kax.1 hu with h|h
    .exact g4 u h
    .exact h4 u h
def Cx.eap(C:Cx)(t:Nat):Option (Nat×Nat) :=
 match C.ti t with
 | some ⟨_,_,_,_,.sl e⟩=>match C.ti e with
   | some j=>bif Nat.beq j.zero.length j.size&&Nat.ble 1 j.size&&Nat.ble j.bytes 100000 then some (e,j.size) else none
   | none=>none
 | _=>none
theorem Cx.eap_of{t e wd:Nat}(h:C.eap t=some (e,wd)):C.P.underlying t=some (.slice e)/\∃i z,C.P.info? e=some i/\i.zero=some z/\i.size=wd/\i.bytes<=100000/\z.cells.size=wd/\0<wd:=by
 unfold Cx.eap at h;split at h
 .rename_i e' ht;split at h
  .rename_i j hj;cases hb:(Nat.beq j.zero.length j.size&&Nat.ble 1 j.size&&Nat.ble j.bytes 100000) with
   | false=>rw [hb] at h;cases h
   | true =>
     rw [hb] at h;cases h
     simp only [ka0] at hb;obtain⟨⟨b1,b2⟩,b3⟩:=hb;have b1:=kaj b1;have b2:=kah b2;have b3:=kah b3;obtain⟨_,_,i,z,h1,h2,h3,h4,h5,_⟩:=Cx.ti_all hj;refine⟨Cx.under_sl ht rfl,i,z,h1,h2,h4,oc,?_,oc⟩;rw [<-b1,<-h3];simp
  .cases h
 .cases h
theorem zul{P:Program}{ρ:Operand->Value}{w w':World}{u v r:Value}(hx:ρ x=u)(hy:ρ y=v)(h:(Builtin.append_ #[t,t] ty #[u,v]).run P w=.ok r w'):(execOp ρ ⟨some d,.call { callee:=.builtin .append,args:=#[x,y],argTypes:=#[t,t] },ty,pos,af,g⟩).run P w=.ok (.value r) w':=by simp [execOp,resolve,invoke,builtin,hx,hy,h]
theorem z9q{w:World}{E:Env}{base e wd:Nat}{v:Value}{n:Nat}{vs:List Value}{u:Value}{news:List (List AV)}(ht:C.eap t=some (e,wd))(ho:w.ownsRow base e wd v n vs)(hu:(u=.slice none 0 0/\news=[])\/∃b o c,u=.slice (some ⟨b,o,none⟩) news.length c/\znh E w wd news b o)
  (hb:n+news.length<=1000000000) (hbase:base<=w.heap.size) :
  ∃v' w' us,(Builtin.append_ #[t,t] ty #[v,u]).run C.P w=.ok v' w'/\w'.ownsRow base e wd v' (n+news.length) (vs++us)/\w.grownBy w' v.ownBlock/\(v'.ownBlock=v.ownBlock\/v'.ownBlock=some w.heap.size)/\yf1 E w news.flatten us:=by
 obtain⟨h1,i,z,h2,h3,h4,h5,h6,h7⟩:=Cx.eap_of ht
 rcases hu with ⟨rfl,rfl⟩|⟨b,o,c,rfl,hr⟩
 .refine⟨v,w,[],run_append_owned_none w base t ty e i wd h1 h2 v n vs ho,oa ho,⟨rfl,rfl,rfl,kac _,λ_ _ _=>rfl⟩,.inl rfl,yf1.nil E w⟩
 .obtain⟨us,g1,g2,g3,g4⟩:=zn2 (k:=0) hr.hb λi row j x hi hj=>by simpa using hr.get i row j x hi hj
  obtain⟨v',w',q1,q2,q3,_,q5⟩:=run_append_own_at (P:=C.P) w base t ty e i z wd i.bytes h1 h2 h3 h4 rfl h6 h7 v n vs ho ⟨b,o,none⟩ news.length c us g1 (λj u hu=>by rw [Addr.add_at];simpa using g2 j u hu) g4
   (by simp only [maxLen];omega) (kak (Nat.mul_le_mul hb h5) oc) hbase
  exact⟨v',w',us,q1,q2,q3,q5,g3⟩
theorem z9r{E:Env}{w:World}{wd:Nat}{u:Value}{news:List (List AV)}(hu:(u=.slice none 0 0/\news=[])\/∃b o c,u=.slice (some ⟨b,o,none⟩) news.length c/\znh E w wd news b o):∀row∈news,row.length=wd/\∀x∈row,x.ids=[]/\x.atom=true:=by
 rcases hu with ⟨_,rfl⟩|⟨b,o,c,_,hr⟩
 .simp
 .intro row hrow;refine⟨hr.hb row hrow,λx hx=>?_⟩;obtain⟨i,hi,rfl⟩:=kcx.1 hrow;obtain⟨j,hj,rfl⟩:=kcx.1 hx;obtain⟨v,h1,h2,_⟩:=hr.get i _ j _ (kaa hi) (kaa hj);exact⟨h1,h2⟩
theorem z93{base e wd n:Nat}{w:World}{v:Value}{vs:List Value}(h:w.ownsRow base e wd v n vs):v.oneCell'=true:=by rcases h.2 with ⟨rfl,_⟩|⟨_,_,_,rfl,_⟩<;>rfl
theorem z64{i e wd:Nat}{T:TypeId}{rows news:List (List AV)}(hd:d<N)(hx:ev s x=some (.own i))(hl:zac s (2*i+1)=some (.buf wd T rows))(hy:ztj s wd y=some news)(hf:zac s (2*d+1)=none)(ht:C.eap t=some (e,wd))(hT:Nat.beq T e=true)(hb:rows.length+news.length<=1000000000) :
  AOp C N ⟨some d,.call { callee:=.builtin .append,args:=#[x,y],argTypes:=#[t,t] },ty,pos,af,g⟩ (rds x++rds y++srcK s y++[2*i+1,2*d+1]) s [(2*d,.av (.own d)),(2*d+1,.buf wd T (rows++news)),(2*i+1,.dead)]:=by
 intro w0 E s' a w hR hr K Q hK
 have hT:=kaj hT
 subst hT
 have hx':=zat hR (λ_ h=>by simp [h]) hx
 have hy':ztj s' wd y=some news:=(zzk hR (λ_ h=>by simp [h]) (λ_ h=>by simp [h])).trans hy
 have hl':zac s' (2*i+1)=some (.buf wd T rows):=(hR _ od).trans hl
 have hf':zac s' (2*d+1)=none:=(hR _ od).trans hf
 obtain⟨h1,vs,h2,h3⟩:=hr.mem i _ hl'
 have hsrc:=z9k hr hy'
 obtain⟨v',w',us,q1,q2,q3,q4,q5⟩:=z9q (ty:=ty) ht h2 hsrc hb hr.ext.base
 have he:=zda (hr.ev hx')
 unfold Oper.wp
 rw [zul he rfl q1]
 have hr2:=hr.regrow (j:=d) (v:=v') (vs:=vs++us) (rows':=rows++news) (wd':=wd) (T':=T) hl' hf' q3 (oa q2) q4 (by simpa using h3.append q5) λrow hrow=>by
  rcases kax.1 hrow with h|h
  .exact h1 row h
  .exact z9r hsrc row h
 refine hK _ _ _ (hr2.put (x:=.own d) hd ?_ λk hk=>?_)
 .have:=Rep.own (E:=E.bufAt d v') (w:=w') d (by simp only [Env.bufAt,if_true];exact z93 q2);simpa [Env.bufAt] using this
 .simp [AV.ids] at hk;subst hk;rw [zaa,if_pos rfl];simp
end ops
def evL(s:AS):List Operand->Option (List AV)
 | []=>some []
 | x::xs=>match ev s x,evL s xs with
   | some y,some ys=>some (y::ys)
   | _,_=>none
def zts(xs:List Operand):List Nat:=xs.flatMap rds
theorem zct{s s':AS}:∀{xs:List Operand},(∀r∈zts xs,zac s' r=zac s r)->evL s' xs=evL s xs
 | [],_=>rfl
 | x::xs,h=>by simp only [zts,keb,kax] at h;simp only [evL];rw [zas λr hr=>h r (.inl hr),zct λr hr=>h r (.inr hr)]
theorem Rel.evL{G:zbf}{N:Nat}{w0:zfq}{s:AS}{a:Act}{w:World}{E:Env}(h:Rel G N w0 s a w E):∀{xs:List Operand} {ys:List AV},evL s xs=some ys->yf1 E w ys (xs.map a.eval)/\∀k∈zbb ys,zac s (2*k+1)≠none
 | [],ys,e=>by cases e;exact⟨yf1.nil E w,by simp [zbb]⟩
 | x::xs,ys,e=>by
   simp only [Ab.evL] at e;split at e
   .rename_i y ys' h1 h2;cases e
    obtain⟨p,q⟩:=Rel.evL h h2;refine⟨p.cons (h.ev h1),λk hk=>?_⟩;simp only [zbb,kax] at hk;rcases hk with hk|hk
    .exact h.ev_scp h1 k hk
    .exact q k hk
   .cases e
section ops
variable{C:Cx}{N:Nat}{s:AS}{d:Nat}{ty:TypeId}{pos:String}{af:Array Edge}{g:Option (Nat×Bool)}{x y:Operand}{t:TypeId}{ti:TI}
def zgz:List AV->Option (List (List AV))
 | []=>some []
 | x::xs=>match cellsOf x,zgz xs with
   | some y,some ys=>some (y::ys)
   | _,_=>none
def zn4(wd:Nat):List (List AV)->Bool
 | []=>true
 | r::rs=>Nat.beq r.length wd&&r.all AV.atom&&(zbb r).isEmpty&&zn4 wd rs
theorem zn3{wd:Nat}:∀{rows:List (List AV)},zn4 wd rows=true->∀r∈rows,r.length=wd/\∀x∈r,x.ids=[]/\x.atom=true
 | [],_,r,h=>by cases h
 | q::rows,h,r,hr=>by
   simp only [zn4,ka0] at h;obtain⟨⟨⟨h1,h2⟩,h3⟩,h4⟩:=h;rcases kat.1 hr with rfl|hr
   .refine⟨kaj h1,λx hx=>⟨?_,zhl h2 x hx⟩⟩;have h3:zbb r=[]:=oa h3
    refine kc4.2 λk hk=>?_;have:=zal.2 ⟨x,hx,hk⟩;rw [h3] at this;cases this
   .exact zn3 h4 r hr
theorem zj1:∀{xs:List AV} {rows:List (List AV)},zgz xs=some rows->rows.length=xs.length
 | [],rows,h=>by cases h;rfl
 | x::xs,rows,h=>by
   simp only [zgz] at h;split at h
   .rename_i h2;cases h;simp [zj1 h2]
   .cases h
theorem zou{E:Env}{w:World}:∀{xs:List AV} {vs:List Value} {rows:List (List AV)},yf1 E w xs vs->zgz xs=some rows->∀(wd:Nat),(∀r∈rows,r.length=wd)->yf1 E w rows.flatten (vs.flatMap λv=>v.cells.toList)/\∀v∈vs,v.cells.size=wd
 | [],vs,rows,h,hc,wd,hw=>by
   cases hc;have:vs=[]:=kbs.1 (by have:=h.1;simpa using this.symm)
   subst this;exact⟨yf1.nil E w,od⟩
 | x::xs,vs,rows,h,hc,wd,hw=>by
   obtain⟨v,us,rfl,h1,h2⟩:=h.inv;simp only [zgz] at hc;split at hc
   .rename_i y ys e1 e2;cases hc
    obtain⟨p,q⟩:=zou h2 e2 wd λr hr=>hw r (by simp [hr]);have h3:=(zgn h1 e1).1;refine⟨by simpa using h3.append p,λu hu=>?_⟩;rcases kat.1 hu with rfl|hu
    .have:=h3.1;have:=hw y od;simp at *;omega
    .exact q u hu
   .cases hc
theorem zwp{P:Program}{ρ:Operand->Value}{w w':World}{len:Nat}{parts:Array (Nat×Operand)}{v:Value}(h:(Instr.buildSlice t len (parts.map λ(i,x)=>(i,ρ x))).run P w=.ok v w'):(execOp ρ ⟨some d,.buildSlice t len parts,ty,pos,af,g⟩).run P w=.ok (.value v) w':=by simp only [execOp,Sem.run_bind,h,Result.andThen_ok,Sem.run_pure]
theorem yfe{e wd:Nat}(hd:d<N)(ht:C.eap t=some (e,wd))(hf:zac s (2*d+1)=none) :
  AOp C N ⟨some d,.buildSlice t 0 #[],ty,pos,af,g⟩ [2*d+1] s [(2*d,.av (.own d)),(2*d+1,.buf wd e [])]:=by
 intro w0 E s' a w hR hr K Q hK
 obtain⟨h1,i,z,h2,h3,h4,h5,h6,h7⟩:=Cx.eap_of ht
 have hrun:(Instr.buildSlice t 0 ((#[]:Array (Nat×Operand)).map λ(i,x)=>(i,a.eval x))).run C.P w=.ok (.slice (some ⟨w.heap.size,0,none⟩) 0 0) (w.alloc (.cells #[] e)):=by
  have e0:∀f:Nat->Value,Array.map f (Array.range 0)=#[]:=λf=>by simp [Array.range]
  simp [Instr.buildSlice,run_underlying h1,sizeOf,zn1 h2,newRow,Instr.fill,e0]
 have ho:(w.alloc (.cells #[] e)).ownsRow w0.base e wd (.slice (some ⟨w.heap.size,0,none⟩) 0 0) 0 [] :=
  World.ownsRow_made w #[] 0 hr.ext.base (kb6 _) od
 unfold Oper.wp
 rw [zwp hrun]
 have hr2:=hr.addbuf (i:=d) (rows:=[]) (vs:=[]) (wd:=wd) (T:=e) ((hR _ od).trans hf) (Below.alloc (Below.refl _ _) (kac _) _) ho (λb hb=>by simp [Value.ownBlock] at hb;omega) (yf1.nil E w) od
 refine hK _ _ _ (hr2.put (x:=.own d) hd ?_ λk hk=>?_)
 .have:=Rep.own (E:=E.bufAt d (.slice (some ⟨w.heap.size,0,none⟩) 0 0)) (w:=w.alloc (.cells #[] e)) d oE;simpa [Env.bufAt] using this
 .simp [AV.ids] at hk;subst hk;rw [zaa,if_pos rfl];simp
theorem zku{e wd len:Nat}{parts:Array (Nat×Operand)}{xs:List Operand}{ys:List AV}{rows:List (List AV)}(hd:d<N)(ht:C.eap t=some (e,wd))(hp:parts.toList=(xs.zipIdx 0).map λp=>(p.2,p.1))(hlen:Nat.beq len xs.length=true)(hpos:Nat.ble 1 len=true)(hsm:Nat.ble (len*wd) 16777216=true)
  (hx:evL s xs=some ys) (hc:zgz ys=some rows) (hw:zn4 wd rows=true) :
  AOp C N ⟨some d,.buildSlice t len parts,ty,pos,af,g⟩ (zts xs) s [(2*d,.av (.sl wd rows))]:=by
 intro w0 E s' a w hR hr K Q hK
 have hlen:=kaj hlen
 have hpos:=kah hpos
 have hsm:=kah hsm
 have hw:=zn3 hw
 obtain⟨h1,i,z,h2,h3,h4,h5,h6,h7⟩:=Cx.eap_of ht
 obtain⟨p,q⟩:=hr.evL ((zct hR).trans hx)
 have hyl:ys.length=xs.length:=by have:=p.1;simpa using this
 have hrl:=zj1 hc
 obtain⟨r1,r2⟩:=zou p hc wd λr hr=>(hw r hr).1
 have hpos':0<len*wd:=Nat.mul_pos hpos h7
 have hfill:=Great.fill_whole (s:=wd) h7 (xs.map a.eval) ((Array.range (len*i.size)).map (z.cells[· % z.cells.size]!)) r2 (by simp [h4,hlen])
 have hparts:(parts.map λ(i,x)=>(i,a.eval x)).toList=((xs.map a.eval).zipIdx 0).map λx=>(x.2,x.1):=by rw [kdx,hp,List.zipIdx_map,List.map_map,List.map_map];rfl
 have hrun:=run_buildSlice (P:=C.P) w t e len (parts.map λ(i,x)=>(i,a.eval x)) ((xs.map a.eval).flatMap λv=>v.cells.toList).toArray i z h1 h2 h3 (by rw [h4];omega) (by rw [h4];omega) (by rw [hparts,h4];rw [h4] at hfill;exact hfill)
 unfold Oper.wp
 rw [zwp hrun]
 have hr2:=hr.addimm (cs:=((xs.map a.eval).flatMap λv=>v.cells.toList).toArray) (T:=e)
 refine hK _ _ _ (hr2.put (x:=.sl wd rows) hd ?_ λk hk=>by simp [AV.ids] at hk)
 have hcell:∀(i:Nat) row (j:Nat) x,rows[i]?=some row->row[j]?=some x->∃v,((xs.map a.eval).flatMap λv=>v.cells.toList)[i*wd+j]?=some v/\Rep E w x v:=λi row j x hi hj=>r1.get (zmv (λr hr=>(hw r hr).1) hi hj)
 have hlr:len=rows.length:=oc
 rw [hlr]
 refine .sl wd rows w.heap.size 0 rows.length (λi j=>(((xs.map a.eval).flatMap λv=>v.cells.toList)[i*wd+j]?).getD undef) (.inr rfl) (λr hr=>(hw r hr).1) (λi row j x hi hj=>?_) (λi row j x hi hj=>?_) (kac _)
 .obtain⟨v,hv,_⟩:=hcell i row j x hi hj;have:=(hw row (kag hi)).2 x (kag hj);refine⟨this.1,this.2,?_⟩;rw [World.cell?_alloc_new];simp [hv]
 .obtain⟨v,hv,hrep⟩:=hcell i row j x hi hj;rw [hv];simp only [kcp];have hb:=Below.alloc (Below.refl w.heap.size w) (kac _) (.cells ((xs.map a.eval).flatMap λv=>v.cells.toList).toArray e);exact Rep.step (E:=E) (λ_ h=>Or.inl h) (λb hbi o v hc=>by rw [World.cell?_of_block (w:=w) (a:=⟨b,o,none⟩) (hb.block b (hr.imm b hbi))];exact hc) hrep λ_ _=>⟨rfl,rfl⟩
theorem a_fn{fn:Fn}{xs ys:Array Operand}{us vs:List AV}(hd:d<N)(hx:evL s xs.toList=some us)(hy:evL s ys.toList=some vs) :
  AOp C N ⟨some d,.makeFunc fn xs ys,ty,pos,af,g⟩ (zts xs.toList++zts ys.toList) s [(2*d,.av (.fn fn us vs))] :=
 zau hd λw0 E s' a w hR hr=>by
  obtain⟨p,q⟩:=hr.evL ((zct λr h=>hR r oo).trans hx);obtain⟨p',q'⟩:=hr.evL ((zct λr h=>hR r oo).trans hy);refine⟨_,rfl,?_,λk hk=>?_⟩
  .have:=Rep.fn (E:=E) (w:=w) fn us vs (xs.toList.map a.eval) (ys.toList.map a.eval) p.1 p'.1 p.2 p'.2;simpa [Instr.makeFunc,<-Array.toList_map] using this
  .simp only [AV.ids,kax] at hk;rcases hk with hk|hk
   .exact q k hk
   .exact q' k hk
def zym(place:Nat->Option (Nat×Nat))(xs:List AV):List (Nat×List AV)->Option (List AV)
 | []=>some xs
 | (i,zs)::rest=>match place i with
   | none=>none
   | some (o,z)=>bif Nat.beq zs.length z&&Nat.ble (o+zs.length) xs.length then zym place (spl xs o zs) rest else none
theorem zzm{α:Type}{xs zs:List α}{o i:Nat}(h:o+zs.length<=xs.length):(spl xs o zs)[i]?=if i<o then xs[i]? else if i<o+zs.length then zs[i-o]? else xs[i]?:=by
 unfold spl;have h0:(xs.take o).length=o:=by simp;omega
 by_cases h1:i<o
 .rw [if_pos h1,kbg,kam oc,ka5,if_pos h1]
 .rw [if_neg h1,kbg,kao oc,h0];by_cases h2:i<o+zs.length
  .rw [if_pos h2,kam oc]
  .rw [if_neg h2,kao oc,kbb];congr 1;omega
theorem zwf{E:Env}{w:World}{o:Nat}:∀{zs:List AV} {us:List Value} {k:Nat} {xs:List AV} {vs:Array Value},yf1 E w zs us->yf1 E w xs vs.toList->o+k+zs.length<=xs.length->
  yf1 E w (spl xs (o+k) zs) ((us.zipIdx k).foldl (λcs (p:Value×Nat)=>cs.setIfInBounds (o+p.2) p.1) vs).toList
 | [],us,k,xs,vs,h,hx,hl=>by have:us=[]:=kbs.1 (by have:=h.1;simpa using this.symm);subst this;simpa [spl] using hx
 | z::zs,us,k,xs,vs,h,hx,hl=>by
   obtain⟨u,us',rfl,h1,h2⟩:=h.inv;have hk:o+k<xs.length:=by simp at hl;omega
   have hx2:yf1 E w (xs.set (o+k) z) (vs.setIfInBounds (o+k) u).toList:=by rw [Array.toList_setIfInBounds];exact hx.set h1
   have ih:=zwf (o:=o) (k:=k+1) h2 hx2 (by simp at hl |-;omega);have e:spl (xs.set (o+k) z) (o+(k+1)) zs=spl xs (o+k) (z::zs):=by
    refine kc0 λi=>?_;rw [zzm (by simp at hl |-;omega),zzm (by simp at hl |-;omega)];simp only [kdc,kbo];by_cases h1:i<o+k
    .rw [if_pos oc,if_pos h1,if_neg oc]
    .by_cases h2:i=o+k
     .subst h2;rw [if_pos oc,if_pos rfl,if_pos hk,if_neg oc,if_pos oc];simp
     .rw [if_neg oc,if_neg h1];by_cases h3:i<o+(k+1)+zs.length
      .rw [if_pos h3,if_pos oc,show i-(o+k)=(i-(o+(k+1)))+1 by omega];simp
      .rw [if_neg h3,if_neg oc,if_neg oc]
   rw [List.zipIdx_cons,List.foldl_cons,<-e];exact ih
theorem zsy{E:Env}{w:World}{place:Nat->Option (Nat×Nat)}:∀{parts:List (Nat×List AV)} {vparts:List (Nat×Value)} {xs ys:List AV} {vs:Array Value},yf1 E w xs vs.toList->parts.length=vparts.length->(∀(j:Nat) p q,parts[j]?=some p->vparts[j]?=some q->p.1=q.1/\yf1 E w p.2 q.2.cells.toList)->zym place xs parts=some ys->
  ∃us,Instr.fill place vs vparts=some us/\yf1 E w ys us.toList
 | [],vparts,xs,ys,vs,hx,hl,_,h=>by
   cases h;have:vparts=[]:=kbs.1 (oa hl.symm)
   subst this;exact⟨vs,rfl,hx⟩
 | (i,zs)::parts,vparts,xs,ys,vs,hx,hl,hp,h=>by
   cases vparts with
   | nil=>simp at hl
   | cons q vparts =>
     obtain⟨j,u⟩:=q;obtain⟨e,hz⟩:=hp 0 _ _ rfl rfl;dsimp only at e hz;subst e;simp only [zym] at h;split at h
     .cases h
     .rename_i o z hpl;cases hb:(Nat.beq zs.length z&&Nat.ble (o+zs.length) xs.length) with
      | false=>rw [hb] at h;cases h
      | true =>
        rw [hb] at h;simp only [ka0] at hb;have b1:=kaj hb.1;have b2:=kah hb.2;have hsz:u.cells.size=zs.length:=by have:=hz.1;simp at this;omega
        have hvs:vs.size=xs.length:=by have:=hx.1;simp at this;omega
        have hf:=zwf (o:=o) (k:=0) hz hx oc;simp only [kb1] at hf;obtain⟨us,h1,h2⟩:=zsy (vs:=(u.cells.toList.zipIdx 0).foldl (λcs (p:Value×Nat)=>cs.setIfInBounds (o+p.2) p.1) vs) hf (oa hl) (λk p q hk hq=>hp (k+1) p q (oa hk) (oa hq)) h;refine⟨us,?_,h2⟩;simp only [Instr.fill,hpl];rw [if_neg (by simp [hsz,b1];omega)];rw [<-h1];congr 1
        rw [<-Array.foldl_toList,Array.toList_zipIdx]
end ops
section ops
variable{C:Cx}{N:Nat}{s:AS}{d:Nat}{ty:TypeId}{pos:String}{af:Array Edge}{g:Option (Nat×Bool)}{x y:Operand}{t:TypeId}{ti:TI}
def Cx.plc(C:Cx)(t:Nat):Option (Nat->Option (Nat×Nat)) :=
 match C.ti t with
 | some ⟨_,_,_,_,.st fs⟩=>bif fs.all (λp=>Nat.ble 1 p.2) then some λi=>fs[i]? else none
 | some ⟨_,_,_,_,.ar _ e⟩=>match C.ti e with
   | some j=>some λi=>some (i*j.size,j.size)
   | none=>none
 | _=>none
theorem zrn{P:Program}:∀{gs:List Field},(gs.map (λf=>(f.offset,((P.info? f.type).map (·.size)).getD 0))).all (λp=>Nat.ble 1 p.2)=true->
  gs.mapM (λf=>(P.info? f.type).map λi=>(f.offset,i.size))=some (gs.map λf=>(f.offset,((P.info? f.type).map (·.size)).getD 0))
 | [],_=>rfl
 | f::gs,h=>by
   simp only [kbq,List.all_cons,ka0] at h;have ih:=zrn h.2;cases hi:P.info? f.type with
   | none=>rw [hi] at h;simp at h
   | some i=>simp [hi,ih]
theorem z6k{pl:Nat->Option (Nat×Nat)}{vparts:List (Nat×Value)}{us:Array Value}(hp:C.plc t=some pl)(ht:C.ti t=some ti)(h:∀z:Array Value,z.toList=ti.zero->Instr.fill pl z vparts=some us):C.P.built t vparts=some us:=by
 obtain⟨_,_,i,z,h1,h2,h3,_⟩:=Cx.ti_all ht;have hf:=h z.cells h3;unfold Cx.plc at hp;split at hp
 .rename_i fs ht';obtain⟨gs,hu,hg⟩:=Cx.under_st ht' rfl;cases hb:fs.all (λp=>Nat.ble 1 p.2) with
  | false=>rw [hb] at hp;cases hp
  | true =>
    rw [hb] at hp;cases hp
    have:=zrn (P:=C.P) (gs:=gs.toList) (by rw [hg];exact hb);rw [hg] at this;simp only [Program.built,h1,hu,h2,this];simpa using hf
 .rename_i e ht';split at hp
  .rename_i j hj;cases hp
   have hu:=Cx.under_ar ht' rfl;obtain⟨_,_,i',z',g1,g2,g3,g4,_⟩:=Cx.ti_all hj;simp only [Program.built,h1,hu,h2,g1,g4];exact hf
  .cases hp
 .cases hp
def zipP(parts:List (Nat×Operand))(rows:List (List AV)):List (Nat×List AV):=(parts.map (·.1)).zip rows
theorem zow{E:Env}{w:World}:∀{xs:List AV} {vs:List Value} {rows:List (List AV)},yf1 E w xs vs->zgz xs=some rows->∀(j:Nat) r v,rows[j]?=some r->vs[j]?=some v->yf1 E w r v.cells.toList
 | [],vs,rows,h,hc,j,r,v,hr,hv=>by cases hc;simp at hr
 | x::xs,vs,rows,h,hc,j,r,v,hr,hv=>by
   obtain⟨u,us,rfl,h1,h2⟩:=h.inv;simp only [zgz] at hc;split at hc
   .rename_i y ys e1 e2;cases hc
    cases j with
    | zero=>simp at hr hv;subst hr;subst hv;exact(zgn h1 e1).1
    | succ j=>exact zow h2 e2 j r v (oa hr) (oa hv)
   .cases hc
theorem zov:∀{xs:List AV} {rows:List (List AV)},zgz xs=some rows->∀k,k∈zbb rows.flatten->k∈zbb xs
 | [],rows,h,k,hk=>by cases h;exact hk
 | x::xs,rows,h,k,hk=>by
   simp only [zgz] at h;split at h
   .rename_i y ys e1 e2;cases h
    simp only [kcm,zlb] at hk;simp only [zbb,kax];rcases hk with hk|hk
    .left;cases x with
     | agg zs=>cases e1;simpa [AV.ids] using hk
     | tup zs=>cases e1
     | val v =>
       have:y=[.val v]:=by
        unfold cellsOf at e1;cases hv:(AV.val v).atom<;>simp [hv] at e1
        exact e1.symm
       subst this;simpa [zbb] using hk
     | sl _ _=>cases e1;simpa [zbb] using hk
     | own _=>cases e1;simpa [zbb] using hk
     | ptr _ _=>cases e1;simpa [zbb] using hk
     | elt _ _ _ _=>cases e1;simpa [zbb] using hk
     | oelt _ _ _ _=>cases e1;simpa [zbb] using hk
     | osl _ _ _ _=>cases e1;simpa [zbb] using hk
     | psl _ _ _=>cases e1;simpa [zbb] using hk
     | fn _ _ _=>cases e1;simpa [zbb] using hk
    .exact .inr (zov e2 k hk)
   .cases h
theorem zsz{pl:Nat->Option (Nat×Nat)}:∀{parts:List (Nat×List AV)} {xs ys:List AV},zym pl xs parts=some ys->∀k,k∈zbb ys->k∈zbb xs\/∃p∈parts,k∈zbb p.2
 | [],xs,ys,h,k,hk=>by cases h;exact .inl hk
 | (i,zs)::parts,xs,ys,h,k,hk=>by
   simp only [zym] at h;split at h
   .cases h
   .rename_i o z _;cases hb:(Nat.beq zs.length z&&Nat.ble (o+zs.length) xs.length) with
    | false=>rw [hb] at h;cases h
    | true =>
      rw [hb] at h;rcases zsz h k hk with h1|⟨p,hp,h1⟩
      .simp only [spl,zlb] at h1;rcases h1 with (h1|h1)|h1
       .exact .inl (zml h1)
       .exact .inr ⟨(i,zs),od,h1⟩
       .exact .inl (zmm h1)
      .exact .inr ⟨p,by simp [hp],h1⟩
theorem z3m{parts:Array (Nat×Operand)}{ys:List AV}{rows:List (List AV)}{pl:Nat->Option (Nat×Nat)}{zs:List AV}(hd:d<N)(hp:C.plc t=some pl)(ht:C.ti t=some ti)(hx:evL s (parts.toList.map (·.2))=some ys)(hc:zgz ys=some rows)(hf:zym pl (ti.zero.map AV.val) (zipP parts.toList rows)=some zs) :
  AOp C N ⟨some d,.build t parts,ty,pos,af,g⟩ (zts (parts.toList.map (·.2))) s [(2*d,.av (.agg zs))] :=
 zau hd λw0 E s' a w hR hr=>by
  obtain⟨p,q⟩:=hr.evL ((zct hR).trans hx);have hyl:ys.length=parts.toList.length:=by have:=p.1;simpa using this
  have hrl:=zj1 hc;have key:∀z:Array Value,z.toList=ti.zero->∃us,Instr.fill pl z (parts.map λ(i,x)=>(i,a.eval x)).toList=some us/\yf1 E w zs us.toList:=λz hz=>by
   refine zsy (parts:=zipP parts.toList rows) (xs:=ti.zero.map AV.val) ⟨by simp [hz],λi x v hx hv=>?_⟩ (by simp [zipP,hrl,hyl]) (λj p' q' hp' hq'=>?_) hf
   .rw [hz] at hv;rw [kaq,hv] at hx;cases hx;exact .val v
   .simp only [zipP,List.getElem?_zip_eq_some] at hp';obtain⟨e1,e2⟩:=hp';rw [kdx,kaq] at hq';rw [kaq] at e1;cases hpj:parts.toList[j]? with
    | none=>rw [hpj] at e1;cases e1
    | some pr =>rw [hpj] at e1 hq';simp only [kcc,kap] at e1 hq';subst hq';exact⟨e1.symm,zow p hc j _ _ e2 (by rw [kaq,kaq,hpj];rfl)⟩
  obtain⟨us0,hus0,hrep⟩:∃us,C.P.built t (parts.map λ(i,x)=>(i,a.eval x)).toList=some us/\yf1 E w zs us.toList:=by obtain⟨us,h1,h2⟩:=key ti.zero.toArray od;exact⟨us,z6k hp ht λz hz=>(show z=ti.zero.toArray by rw [<-hz])▸h1,h2⟩
  refine⟨.agg us0,?_,?_,λk hk=>?_⟩
  .simp only [execOp,Sem.run_bind,run_build w t _ us0 hus0,Result.andThen_ok,Sem.run_pure]
  .have:=Rep.agg zs us0.toList hrep.1 hrep.2;simpa using this
  .rcases zsz hf k oI with h1|⟨pr,hpr,h1⟩
   .exact absurd h1 (zpx (λx hx=>by obtain⟨v,_,rfl⟩:=kav.1 hx;rfl) k)
   .refine q k (zov hc k ?_);obtain⟨i,zz⟩:=pr;have:=(List.of_mem_zip hpr).2;obtain⟨x,hx,hxk⟩:=zal.1 h1;exact zal.2 ⟨x,kci.2 ⟨zz,this,hx⟩,hxk⟩
theorem z3j{k k':IntKind}{n:Int}{t':TypeId}(hd:d<N)(ht:(C.ti t').map (·.sh)=some (.int k'))(ht2:(C.ti t).map (·.sh)=some (.int k))(hx:ev s x=some (.val (.int k n)))(hn:inI k' n):AOp C N ⟨some d,.convert t t' x,ty,pos,af,g⟩ (rds x) s [(2*d,.av (.val (.int k' n)))]:=by
 cases h1:C.ti t' with
 | none=>rw [h1] at ht;cases ht
 | some i =>
   cases h2:C.ti t with
   | none=>rw [h2] at ht2;cases ht2
   | some j =>rw [h1] at ht;rw [h2] at ht2;have hu:=Cx.under_int h1 (oa ht);have hu2:=Cx.under_int h2 (oa ht2);exact zux hd hx λρ w e1=>by simp [execOp,e1,convert,run_underlying hu,run_underlying hu2,Conv.intToInt,show k'.wrap n=n from hn]
theorem a_max{k:IntKind}{m n:Int}(hd:d<N)(hx:ev s x=some (.val (.int k m)))(hy:ev s y=some (.val (.int k n))){ts:Array TypeId}:AOp C N ⟨some d,.call { callee:=.builtin .max,args:=#[x,y],argTypes:=ts },ty,pos,af,g⟩ (rds x++rds y) s [(2*d,.av (.val (.int k (max m n))))] :=
 zb2 hd hx hy λρ w e1 e2=>by
  have:(if n > m then n else m)=max m n:=oc
  simp [execOp,resolve,invoke,builtin,e1,e2,Builtin.max_,Builtin.max2,this]
theorem a_min{k:IntKind}{m n:Int}(hd:d<N)(hx:ev s x=some (.val (.int k m)))(hy:ev s y=some (.val (.int k n))){ts:Array TypeId}:AOp C N ⟨some d,.call { callee:=.builtin .min,args:=#[x,y],argTypes:=ts },ty,pos,af,g⟩ (rds x++rds y) s [(2*d,.av (.val (.int k (min m n))))] :=
 zb2 hd hx hy λρ w e1 e2=>by
  have:(if n<m then n else m)=min m n:=oc
  simp [execOp,resolve,invoke,builtin,e1,e2,Builtin.min_,Builtin.min2,this]
end ops
def zca(imm:Nat->Prop):Env:=⟨imm,λ_=>0,λ_=>.slice none 0 0,[]⟩
def th1(s:AS):AV->Option AV
 | .own i=>match zea (zac s (2*i+1)) with
   | some (wd,rows)=>some (.sl wd rows)
   | none=>none
 | x=>bif x.ids.isEmpty then some x else none
def zf0(f:AV->Option AV):List AV->Option (List AV)
 | []=>some []
 | x::xs=>match f x,zf0 f xs with
   | some y,some ys=>some (y::ys)
   | _,_=>none
def th2(s:AS):AV->Option AV
 | .ptr i o=>match zac s (2*i+1) with
   | some (.cells _ xs)=>match zf0 (th1 s) xs with
     | some ys=>some (.elt ys.length [ys] 0 o)
     | none=>none
   | _=>none
 | x=>th1 s x
def th3(s:AS):AV->Option AV
 | .agg xs=>match zf0 (th1 s) xs with
   | some ys=>some (.agg ys)
   | none=>none
 | .tup xs=>match zf0 (th1 s) xs with
   | some ys=>some (.tup ys)
   | none=>none
 | .fn f a b=>match zf0 (th2 s) a,zf0 (th2 s) b with
   | some a',some b'=>some (.fn f a' b')
   | _,_=>none
 | x=>th2 s x
def zqt(E:Env)(s:AS)(b:Nat):Prop:=E.imm b\/∃i,blk E i (zac s (2*i+1))=some b
section thaw
variable{G:zbf}{N:Nat}{w0:zfq}{s:AS}{a:Act}{w:World}{E:Env}
theorem zn7{E:Env}{imm:Nat->Prop}{w:World}{x:AV}{v:Value}(h:Rep E w x v)(hx:x.ids=[])(hi:∀b,E.imm b->imm b):Rep (zca imm) w x v:=Rep.step (E':=zca imm) hi (zdy.refl E w) h (by rw [hx];simp)
theorem za8{E E':Env}{w:World}{x:AV}{v:Value}(h:Rep E w x v)(hx:x.ids=[])(hi:∀b,E.imm b->E'.imm b):Rep E' w x v:=Rep.step (E':=E') hi (zdy.refl E w) h (by rw [hx];simp)
theorem zny{E:Env}{w:World}{wd b o c:Nat}{rows:List (List AV)}(h:znh E w wd rows b o){imm:Nat->Prop}(hb:imm b)(hi:∀b,E.imm b->imm b)(hn:rows.length<=c):Rep (zca imm) w (.sl wd rows) (.slice (some ⟨b,o,none⟩) rows.length c):=by
 refine .sl wd rows b o c (λi j=>(w.cell? ⟨b,o+i*wd+j,none⟩).getD undef) hb h.hb (λi row j x hi2 hj=>?_) (λi row j x hi2 hj=>?_) hn
 .obtain⟨v,h1,h2,h3,_⟩:=h.get i row j x hi2 hj;exact⟨h1,h2,by rw [h3];rfl⟩
 .obtain⟨v,h1,h2,h3,h4⟩:=h.get i row j x hi2 hj;rw [h3];exact zn7 h4 h1 hi
theorem z4l{i wd:Nat}{rows:List (List AV)}(h:Rel G N w0 s a w E)(hr:zea (zac s (2*i+1))=some (wd,rows)) :
  (E.buf i=.slice none 0 0/\rows=[])\/∃b o cap,E.buf i=.slice (some ⟨b,o,none⟩) rows.length cap/\znh E w wd rows b o/\zqt E s b/\rows.length<=cap:=by
 rcases hlk:zac s (2*i+1) with _|c
 .rw [hlk] at hr;cases hr
 .have h1:=yml (E:=E) (base:=w0.base) (w:=w) (i:=i) (c:=some c) (wd:=wd) (rows:=rows) (λk hk=>by cases hk;exact h.mem i c hlk) (by rw [<-hlk];exact hr);rw [hlk] at hr;rcases h1 with h1|⟨b,o,cap,h1,h2,h0⟩
  .exact .inl h1
  .refine .inr ⟨b,o,cap,h1,h2,?_,h0⟩;cases c with
   | av a=>cases hr
   | cells T xs=>cases hr
   | mp kvs=>cases hr
   | dead=>cases hr
   | buf wd' T rows'=>exact .inr ⟨i,by rw [hlk];simp [blk,h1,Value.ownBlock]⟩
   | frz wd' rows' =>
     cases hr;have hm:=h.mem i _ hlk
     simp only [zic] at hm;rw [h1] at hm;left;generalize hv:Value.slice (some ⟨b,o,none⟩) rows.length cap=v at hm;cases hm with
     | nil=>cases hv
     | sl _ _ b' o' c' val hb hw hc h=>simp only [Value.slice.injEq,kap,Addr.mk.injEq] at hv;obtain⟨⟨rfl,_,_⟩,_⟩:=hv;exact hb
theorem zhy{x y:AV}(h:th1 s x=some y):y.ids=[]/\(x.atom=true->y.atom=true):=by
 cases x with
 | own i =>
   simp only [th1] at h;split at h
   .cases h;exact⟨rfl,λ_=>rfl⟩
   .cases h
 | _ =>
   simp only [th1] at h;rename_i q;all_goals
    revert h
    generalize hq:AV.ids _=l
    cases l with
    | nil=>intro h;cases h;exact⟨hq,λh=>h⟩
    | cons _ _=>intro h;cases h
theorem zjh{x y:AV}{v:Value}(h:Rel G N w0 s a w E)(hx:Rep E w x v)(ht:th1 s x=some y):Rep (zca (zqt E s)) w y v:=by
 by_cases ho:∃i,x=.own i
 .obtain⟨i,rfl⟩:=ho;simp only [th1] at ht;split at ht
  .rename_i wd rows hr;cases ht
   rw [zda hx];rcases z4l h hr with ⟨h1,h2⟩|⟨b,o,cap,h1,h2,h3,h4⟩
   .rw [h1,h2];exact .nil wd
   .rw [h1];exact zny h2 h3 (λb hb=>.inl hb) h4
  .cases ht
 .have e:th1 s x=bif x.ids.isEmpty then some x else none:=by
    cases x<;>first|rfl|(exact absurd ⟨_,rfl⟩ ho)
  rw [e] at ht;cases hq:x.ids with
  | nil=>rw [hq] at ht;cases ht;exact zn7 hx hq λb hb=>.inl hb
  | cons i l=>rw [hq] at ht;cases ht
theorem z49{f:AV->Option AV}:∀{xs ys:List AV},zf0 f xs=some ys->ys.length=xs.length
 | [],ys,h=>by cases h;rfl
 | x::xs,ys,h=>by
   simp only [zf0] at h;split at h
   .rename_i h2;cases h;simp [z49 h2]
   .cases h
theorem zcb{E':Env}{f:AV->Option AV}(hf:∀x y v,Rep E w x v->f x=some y->Rep E' w y v):∀{xs ys:List AV} {vs:List Value},yf1 E w xs vs->zf0 f xs=some ys->yf1 E' w ys vs
 | [],ys,vs,h,e=>by cases e;exact⟨h.1,λi x v hx=>by simp at hx⟩
 | x::xs,ys,vs,h,e=>by
   obtain⟨v,us,rfl,h1,h2⟩:=h.inv;simp only [zf0] at e;split at e
   .rename_i e1 e2;cases e;exact yf1.cons (hf _ _ _ h1 e1) (zcb hf h2 e2)
   .cases e
theorem zcu{f:AV->Option AV}(hf:∀x y,f x=some y->y.ids=[]):∀{xs ys:List AV},zf0 f xs=some ys->zbb ys=[]
 | [],ys,e=>by cases e;rfl
 | x::xs,ys,e=>by
   simp only [zf0] at e;split at e
   .rename_i e1 e2;cases e;simp [zbb,hf _ _ e1,zcu hf e2]
   .cases e
theorem zv4{f:AV->Option AV}{p:AV->Prop}:∀{xs ys:List AV},(∀x∈xs,∀y,f x=some y->p y)->zf0 f xs=some ys->∀y∈ys,p y
 | [],ys,_,e=>by cases e;simp
 | x::xs,ys,hf,e=>by
   simp only [zf0] at e;split at e
   .rename_i e1 e2;cases e
    intro y hy;rcases kat.1 hy with rfl|hy
    .exact hf x od _ e1
    .exact zv4 (λx hx=>hf x (by simp [hx])) e2 y hy
   .cases e
theorem ztg{x y:AV}(h:th2 s x=some y):y.ids=[]:=by
 by_cases hp:∃i o,x=.ptr i o
 .obtain⟨i,o,rfl⟩:=hp;simp only [th2] at h;split at h
  .split at h
   .cases h;rfl
   .cases h
  .cases h
 .have e:th2 s x=th1 s x:=by cases x<;>first|rfl|(exact absurd ⟨_,_,rfl⟩ hp)
  rw [e] at h;exact(zhy h).1
theorem ztf{x y:AV}{v:Value}(h:Rel G N w0 s a w E)(hx:Rep E w x v)(ht:th2 s x=some y):Rep (zca (zqt E s)) w y v:=by
 by_cases hp:∃i o,x=.ptr i o
 .obtain⟨i,o,rfl⟩:=hp;simp only [th2] at ht;split at ht
  .rename_i T xs hl;split at ht
   .rename_i ys hys;cases ht
    obtain⟨vs,h1,h2,h3⟩:=h.mem i _ hl;have h4:=zcb (λx y v hx hy=>zjh h hx hy) h2 hys;have hids:∀y∈ys,y.ids=[]/\y.atom=true:=zv4 (λx hx y hy=>⟨(zhy hy).1,(zhy hy).2 (h3 x hx)⟩) hys;cases hx with
    | ptr =>
      have:=Rep.elt (E:=zca (zqt E s)) (w:=w) ys.length [ys] (E.mem i) 0 0 o (λ_ j=>(vs[j]?).getD undef) (.inr ⟨i,by rw [hl];rfl⟩) od (λk row j x hk hj=>?_) λk row j x hk hj=>?_
      .simpa using this
      .cases k with
       | succ k=>simp at hk
       | zero =>simp at hk;subst hk;obtain⟨v,hv,_⟩:=h4.get hj;refine⟨(hids x (kag hj)).1,(hids x (kag hj)).2,?_⟩;simp only [Nat.zero_mul,kb0,zj2 h1,hv,kcp]
      .cases k with
       | succ k=>simp at hk
       | zero =>simp at hk;subst hk;obtain⟨v,hv,hr⟩:=h4.get hj;rw [hv];exact hr
   .cases ht
  .cases ht
 .have e:th2 s x=th1 s x:=by cases x<;>first|rfl|(exact absurd ⟨_,_,rfl⟩ hp)
  rw [e] at ht;exact zjh h hx ht
theorem z9g{x y:AV}(h:th3 s x=some y):y.ids=[]:=by
 by_cases hp:(∃xs,x=.agg xs)\/(∃xs,x=.tup xs)\/∃f a b,x=.fn f a b
 .rcases hp with ⟨xs,rfl⟩|⟨xs,rfl⟩|⟨f,a,b,rfl⟩
  .simp only [th3] at h;split at h
   .rename_i e;cases h;simpa [AV.ids] using zcu (λ_ _ h=>(zhy h).1) e
   .cases h
  .simp only [th3] at h;split at h
   .rename_i e;cases h;simpa [AV.ids] using zcu (λ_ _ h=>(zhy h).1) e
   .cases h
  .simp only [th3] at h;split at h
   .rename_i e1 e2;cases h;simp [AV.ids,zcu (λ_ _ h=>ztg h) e1,zcu (λ_ _ h=>ztg h) e2]
   .cases h
 .have e:th3 s x=th2 s x:=by
    cases x<;>first|rfl|(exact absurd (.inl ⟨_,rfl⟩) hp)|(exact absurd (.inr (.inl ⟨_,rfl⟩)) hp)|(exact absurd (.inr (.inr ⟨_,_,_,rfl⟩)) hp)
  rw [e] at h;exact ztg h
theorem zy8{x y:AV}{v:Value}(h:Rel G N w0 s a w E)(hx:Rep E w x v)(ht:th3 s x=some y):Rep (zca (zqt E s)) w y v:=by
 by_cases hp:(∃xs,x=.agg xs)\/(∃xs,x=.tup xs)\/∃f a b,x=.fn f a b
 .rcases hp with ⟨xs,rfl⟩|⟨xs,rfl⟩|⟨f,p,q,rfl⟩
  .simp only [th3] at ht;split at ht
   .rename_i ys e;cases ht
    cases hx with
    | agg _ vs hl hh =>have:=zcb (λx y v hx hy=>zjh h hx hy) ⟨hl,hh⟩ e;exact .agg ys vs this.1 this.2
   .cases ht
  .simp only [th3] at ht;split at ht
   .rename_i ys e;cases ht
    cases hx with
    | tup _ vs hl hh =>have:=zcb (λx y v hx hy=>zjh h hx hy) ⟨hl,hh⟩ e;exact .tup ys vs this.1 this.2
   .cases ht
  .simp only [th3] at ht;split at ht
   .rename_i p' q' e1 e2;cases ht
    cases hx with
    | fn _ _ _ vs us hl hm hh hk =>have h1:=zcb (λx y v hx hy=>ztf h hx hy) ⟨hl,hh⟩ e1;have h2:=zcb (λx y v hx hy=>ztf h hx hy) ⟨hm,hk⟩ e2;exact .fn f p' q' vs us h1.1 h2.1 h1.2 h2.2
   .cases ht
 .have e:th3 s x=th2 s x:=by
    cases x<;>first|rfl|(exact absurd (.inl ⟨_,rfl⟩) hp)|(exact absurd (.inr (.inl ⟨_,rfl⟩)) hp)|(exact absurd (.inr (.inr ⟨_,_,_,rfl⟩)) hp)
  rw [e] at ht;exact ztf h hx ht
end thaw
def zdc(P:Program)(f:FuncId):Bool :=
 match P.funcs[f]? with
 | some fn => !(fn.name == "runtime.NumGoroutine") && fn.body.isSome
 | none=>false
def AFn(C:Cx)(f:FuncId)(args:List AV)(r:AV):Prop :=
 r.ids=[]/\zdc C.P f=true/\∀(imm:Nat->Prop) w vs,(∀b,imm b->b<w.heap.size)->zb3 C.G (zca imm) w->yf1 (zca imm) w args vs->
  Calls C.P f vs.toArray w λe w'=>∃v,e=.returned v/\Below w.heap.size w w'/\Rep (zca λb=>imm b\/(w.heap.size<=b/\b<w'.heap.size)) w' r v
def ze1(C:Cx)(f:FuncId)(args:List AV)(wd:Nat)(T:TypeId)(rows:List (List AV)):Prop :=
 zn4 wd rows=true/\zdc C.P f=true/\∀(imm:Nat->Prop) w vs,(∀b,imm b->b<w.heap.size)->zb3 C.G (zca imm) w->yf1 (zca imm) w args vs->
  Calls C.P f vs.toArray w λe w'=>∃v us,e=.returned v/\Below w.heap.size w w'/\w'.ownsRow w.heap.size T wd v rows.length us/\yf1 (zca λb=>imm b\/(w.heap.size<=b/\b<w'.heap.size/\some b≠v.ownBlock)) w' rows.flatten us
def zba:AV->Option (FuncId×List AV×List AV)
 | .val (.func (.func f) p q)=>some (f,p.toList.map .val,q.toList.map .val)
 | .fn (.func f) p q=>some (f,p,q)
 | _=>none
theorem zj4{E:Env}{w:World}{x:AV}{v:Value}{f:FuncId}{p q:List AV}(h:Rep E w x v)(hc:zba x=some (f,p,q)):∃vs us,v=.func (.func f) vs us/\yf1 E w p vs.toList/\yf1 E w q us.toList:=by
 unfold zba at hc;split at hc
 .rename_i f' p' q';cases hc;cases h
  have hv:∀vs:List Value,yf1 E w (vs.map AV.val) vs:=λvs=>⟨od,λi x v hx hv=>by rw [kaq,hv] at hx;cases hx;exact .val v⟩;exact⟨p',q',rfl,hv _,hv _⟩
 .cases hc;cases h with
  | fn _ _ _ vs us hl hm hh hk=>exact⟨vs.toArray,us.toArray,rfl,⟨hl,hh⟩,⟨hm,hk⟩⟩
 .cases hc
theorem zfl{P:Program}{ρ:Operand->Value}{w:World}{x:Operand}{xs:Array Operand}{ts:Array TypeId}{f:FuncId}{p q:Array Value}{d:Option Tmp}{ty:TypeId}{pos:String}{af:Array Edge}{g:Option (Nat×Bool)}(hx:ρ x=.func (.func f) p q)(hc:zdc P f=true) :
  (execOp ρ ⟨d,.call { callee:=.value x,args:=xs,argTypes:=ts },ty,pos,af,g⟩).run P w=.ok (.enter f (p++xs.map ρ++q)) w:=by
 unfold zdc at hc
 split at hc
 .rename_i fn hf;simp only [ka0,kb7] at hc;obtain⟨h1,h2⟩:=hc;have h3:fn.body≠none:=by cases hb:fn.body<;>simp_all
  have h1 : fn.name ≠ "runtime.NumGoroutine" := by simpa using h1
  simp [execOp,resolve,invoke,hx,Deferred.ofValue,callFunc,program,Sem.run,hf,h1,h3]
 .cases hc
mutual
def z79:AV->Bool
 | .val _=>true
 | .agg xs=>z1t xs
 | .tup xs=>z1t xs
 | _=>false
def z1t:List AV->Bool
 | []=>true
 | x::xs=>z79 x&&z1t xs
end
theorem zmw{x:AV}:∀{xs:List AV},z1t xs=true->x∈xs->z79 x=true
 | [],_,h=>by cases h
 | y::xs,h,hx=>by
   simp only [z1t,ka0] at h;rcases kat.1 hx with rfl|hx
   .exact h.1
   .exact zmw h.2 hx
theorem z4s{E E':Env}{w:World}{x:AV}{v:Value}(h:Rep E w x v):z79 x=true->Rep E' w x v:=by
 induction h with
 | val v=>exactλ_=>.val v
 | agg xs vs hl h ih=>exactλhf=>.agg xs vs hl λi x v hx hv=>ih i x v hx hv (zmw (by simpa [z79] using hf) (kag hx))
 | tup xs vs hl h ih=>exactλhf=>.tup xs vs hl λi x v hx hv=>ih i x v hx hv (zmw (by simpa [z79] using hf) (kag hx))
 | _=>intro hf;simp [z79] at hf
section call
variable{C:Cx}{N:Nat}{s:AS}{d:Nat}{ty:TypeId}{pos:String}{af:Array Edge}{g:Option (Nat×Bool)}{x:Operand}{xs:Array Operand}{ts:Array TypeId}{f:FuncId}{p q ys zs:List AV}{z r:AV}
theorem Rel.newbuf{G:zbf}{w0:zfq}{a:Act}{w:World}{E:Env}{i wd:Nat}{T:TypeId}{rows:List (List AV)}{vs:List Value}{v:Value}(h:Rel G N w0 s a w E)(hf:zac s (2*i+1)=none)
  (ho:w.ownsRow w0.base T wd v rows.length vs) (hv:∀b,v.ownBlock=some b->z3p w0 b/\¬E.imm b/\∀j,blk E j (zac s (2*j+1))≠some b) (hr:yf1 E w rows.flatten vs) (hrow:∀row∈rows,row.length=wd/\∀x∈row,x.ids=[]/\x.atom=true) :
  Rel G N w0 ((2*i+1,.buf wd T rows)::s) a w (E.bufAt i v):=by
 have hid:∀j,zac s (2*j+1)≠none->(E.bufAt i v).mem j=E.mem j/\(E.bufAt i v).buf j=E.buf j:=λj hj=>⟨rfl,by simp only [Env.bufAt];rw [if_neg (λe:j=i=>hj (by rw [e];exact hf))]⟩
 have h2:=h.step (E':=E.bufAt i v) (λ_ h=>h) (zdy.refl E w) hid (λj b hbl=>⟨rfl,(h.new j b hbl).2.1⟩) h.imm (kac _) h.ext h.old (hdd:=λD hD=>hD)
 refine h2.setmem ⟨hrow,vs,?_,yf1.step (E:=E) (E':=E.bufAt i v) (λ_ h=>h) (zdy.refl E w) hr (λk hk=>?_)⟩ (λb hbl=>?_) λk hk=>by simp [za7.ids] at hk
 .simp only [Env.bufAt,if_true];exact ho
 .obtain⟨x,hx,hxk⟩:=zal.1 hk;obtain⟨row,hr1,hr2⟩:=kci.1 hx;rw [((hrow row hr1).2 x hr2).1] at hxk;cases hxk
 .simp only [blk,Env.bufAt,if_true] at hbl;refine⟨(hv b hbl).1,(hv b hbl).2.1,(ho.lt b hbl).2,λj hj hbl2=>?_⟩;refine(hv b hbl).2.2 j ?_;rw [<-hbl2];cases hl:zac s (2*j+1) with
  | none=>rfl
  | some c=>cases c<;>simp [blk,Env.bufAt,hj]
theorem zoi{G:zbf}{E:Env}{w:World}{imm:Nat->Prop}(h:zb3 G E w)(hi:∀b,E.imm b->imm b):zb3 G (zca imm) w:=zb3.step (E':=zca imm) h hi (zdy.refl E w)
theorem Rel.immT_lt{G:zbf}{w0:zfq}{a:Act}{w:World}{E:Env}(h:Rel G N w0 s a w E):∀b,zqt E s b->b<w.heap.size:=λb hb=>hb.elim (h.imm b) λ⟨i,hi⟩=>(h.new i b hi).2.2
theorem zfn{E:Env}{w:World}{x:Operand}{z:AV}{f:FuncId}{p q ys:List AV}{a:Act}{xs:Array Operand}(h1:Rep E w z (a.eval x))(hc:zba z=some (f,p,q))(h2:yf1 E w ys (xs.toList.map a.eval)) :
  ∃us vs,a.eval x=.func (.func f) us vs/\yf1 E w (p++ys++q) (us++xs.map a.eval++vs).toList:=by
 obtain⟨us,vs,e1,e2,e3⟩:=zj4 h1 hc
 exact⟨us,vs,e1,by simpa using (e2.append h2).append e3⟩
end call
theorem zo6{ops:Array Oper}{tmps:Array Value}{j t:Nat}{b:Bool}(h:(ops[j]?).bind (·.dst)=some t)(hv:tmps.getD t undef=.bool b):yielded ops tmps j=some b:=by
 unfold yielded;rw [h];have:tmps[t]?=some (.bool b):=by
  rw [kau] at hv;cases ht:tmps[t]? with
  | none=>rw [ht] at hv;cases hv
  | some v=>rw [ht] at hv;simp at hv;rw [hv]
 simp [this]
theorem zyy{ops:Array Oper}{tmps:Array Value}{j t:Nat}{v:Value}{b:Bool}(h:(ops[j]?).bind (·.dst)=some t)(hv:tmps.getD t undef=v)(hb:v≠.bool b):yielded ops tmps j≠some b:=by
 unfold yielded;rw [h];rw [kau] at hv;simp only [Option.bind_some];cases ht:tmps[t]? with
 | none=>simp
 | some u =>rw [ht] at hv;simp only [kcp] at hv;subst hv;cases u<;>simp_all
def zj8:List Oper->List (List Nat)->List (List Nat)
 | [],acc=>acc
 | o::os,acc=>zj8 os (acc++[o.after.toList.flatMap λe=>bif Region.binds .any e then e.on::acc.getD e.on [] else []])
def z97(xs ys:List Nat):Bool:=xs.any λx=>ys.any λy=>Nat.beq x y
def zoa(anc:List (List Nat))(data:List (List Nat×List Nat))(i j:Nat):Bool :=
 match data[i]?,data[j]?,anc[j]? with
 | some (Ri,Wi),some (Rj,Wj),some l=>l.any (Nat.beq i)||!(z97 Wi (Rj++Wj)||z97 Ri Wj)
 | _,_,_=>false
def ztw(ops:List Oper)(data:List (List Nat×List Nat)):Bool :=
 Nat.beq data.length ops.length&&(zj8 ops []).zipIdx.all (λp=>p.1.all λk=>Nat.blt k p.2)&&
  (List.range ops.length).all λj=>(List.range j).all λi=>zoa (zj8 ops []) data i j
theorem zsu:∀(os:List Oper) (acc:List (List Nat)) (i:Nat),i<acc.length->(zj8 os acc)[i]?=acc[i]?
 | [],acc,i,h=>rfl
 | o::os,acc,i,h=>by simp only [zj8];rw [zsu os _ i oy,kam h]
def z68(ops:List Oper)(D:Nat->Prop):Prop:=∀j o,ops[j]?=some o->D j->∀e∈o.after,Region.binds .any e=true->D e.on
theorem zo0{all:List Oper}{D:Nat->Prop}(hD:z68 all D):∀(os:List Oper) (acc:List (List Nat)),(∀j o,os[j]?=some o->all[acc.length+j]?=some o)->(∀j l,acc[j]?=some l->D j->∀k∈l,D k)->
  ∀j l,(zj8 os acc)[j]?=some l->D j->∀k∈l,D k
 | [],acc,_,h=>h
 | o::os,acc,ha,h=>by
   simp only [zj8];refine zo0 hD os _ (λj q hq=>?_) λj l hl hj k hk=>?_
   .have:=ha (j+1) q (oa hq);rw [show acc.length+(j+1)=(acc++[o.after.toList.flatMap λe=>bif Region.binds .any e then e.on::acc.getD e.on [] else []]).length+j by simp;omega] at this;exact this
   .rcases kae j acc.length with hlt|hge
    .rw [kam hlt] at hl;exact h j l hl hj k hk
    .rw [kao hge] at hl;have hj0:j=acc.length:=by
       have:=(kab.1 hl).1;simp at this;omega
     subst hj0;simp at hl;subst hl;have ho:=ha 0 o rfl;simp only [kb1] at ho;obtain⟨e,he,hk⟩:=kcq.1 hk;have he':e∈o.after:=oa he
     cases hb:Region.binds .any e with
     | false=>rw [hb] at hk;cases hk
     | true =>
       rw [hb] at hk;have hDe:=hD _ o ho hj e he' hb;rcases kat.1 hk with rfl|hk
       .exact hDe
       .cases hg:acc[e.on]? with
        | none=>rw [hg] at hk;cases hk
        | some l=>rw [hg] at hk;exact h _ l hg hDe k hk
theorem zsv:∀(os:List Oper) (acc:List (List Nat)) (j:Nat) (o:Oper),os[j]?=some o->∃l,(zj8 os acc)[acc.length+j]?=some l/\∀e∈o.after,Region.binds .any e=true->e.on∈l
 | [],acc,j,o,h=>by simp at h
 | q::os,acc,0,o,h=>by simp at h;subst h;refine⟨_,by simp only [zj8];rw [zsu _ _ _ od,kb1,kao (kac _),kei];rfl,λe he hb=>?_⟩;exact kcq.2 ⟨e,oa he,by rw [hb];simp⟩
 | q::os,acc,j+1,o,h=>by simp only [zj8];obtain⟨l,h1,h2⟩:=zsv os (acc++[q.after.toList.flatMap λe=>bif Region.binds .any e then e.on::acc.getD e.on [] else []]) j o (oa h);exact⟨l,by rw [<-h1];congr 1;simp;omega,h2⟩
theorem zv3{xs ys:List Nat}{r:Nat}(h1:r∈xs)(h2:r∈ys):z97 xs ys=true :=
 kaz.2 ⟨r,h1,kaz.2 ⟨r,h2,od⟩⟩
noncomputable def stD(us:List AS)(s:AS)(D:Nat->Prop):Nat->AS
 | 0=>s
 | k+1=>open Classical in if D k then us.getD k []++stD us s D k else stD us s D k
theorem zk6{us:List AS}{s:AS}{D:Nat->Prop}{k r:Nat}:zac (stD us s D (k+1)) r=open Classical in if D k then (zac (us.getD k []) r).or (zac (stD us s D k) r) else zac (stD us s D k) r:=by simp only [stD];split<;>simp [zbz]
theorem zvl{us:List AS}{s:AS}{D:Nat->Prop}{i r:Nat}(h1:∀j,j<i->zac (us.getD j []) r≠none->D j)(h2:∀j,i<=j->D j->zac (us.getD j []) r=none) :
  ∀k,zac (stD us s D k) r=zac (stD us s (λ_=>True) (min k i)) r
 | 0=>by simp [stD]
 | k+1=>by
   rw [zk6];have ih:=zvl (s:=s) h1 h2 k;rcases kae k i with hk|hk
   .rw [show min (k+1) i=k+1 by omega,zk6,if_pos trivial];rw [show min k i=k by omega] at ih;cases hw:zac (us.getD k []) r with
    | none=>rw [ih];split<;>simp
    | some c=>rw [if_pos (h1 k hk (by rw [hw];simp))];simp
   .rw [show min (k+1) i=min k i by omega,<-ih];split
    .rename_i hD;rw [h2 k hk hD];simp
    .rfl
theorem zzj{us:List AS}{s:AS}{D:Nat->Prop}{i r:Nat}(hi:¬D i)(h:∀j,i<j->D j->zac (us.getD i []) r≠none->zac (us.getD j []) r=none) :
  ∀k,zac (stD us s (λj=>D j\/j=i) k) r=if k<=i then zac (stD us s D k) r else (zac (us.getD i []) r).or (zac (stD us s D k) r)
 | 0=>by simp [stD]
 | k+1=>by
   rw [zk6,zk6];have ih:=zzj (s:=s) hi h k;rcases kdd k i with hk|hk|hk
   .rw [if_pos (show k+1<=i by omega),ih,if_pos (show k<=i by omega)];by_cases hD:D k
    .rw [if_pos (.inl hD),if_pos hD]
    .rw [if_neg (λhh=>hh.elim hD oc),if_neg hD]
   .subst hk;rw [if_neg (show ¬k+1<=k by omega),ih,if_pos (kac _),if_pos (.inr rfl),if_neg hi]
   .rw [if_neg (show ¬k+1<=i by omega),ih,if_neg (show ¬k<=i by omega)];by_cases hD:D k
    .rw [if_pos (.inl hD),if_pos hD];cases hw:zac (us.getD i []) r with
     | none=>simp
     | some c=>rw [h k hk hD (by rw [hw];simp)];simp
    .rw [if_neg (λhh=>hh.elim hD oc),if_neg hD]
def zd2(o:Oper):Bool:=match o.op with|.defer _=>false|_=>true
def zqp(ops:List Oper)(a a':Act):Prop:=∀t,ops.any (λo=>o.dst == some t)=false->a'.tmps.getD t undef=a.tmps.getD t undef
theorem zqp.refl(ops:List Oper)(a:Act):zqp ops a a:=λ_ _=>rfl
theorem zqp.put{ops:List Oper}{a a':Act}(h:zqp ops a a'){o:Oper}(ho:o∈ops)(v:Value):zqp ops a (a'.put o.dst v):=λt ht=>by
 rw [<-h t ht];have hne:o.dst≠some t:=λe=>by have:ops.any (λo=>o.dst == some t)=true:=kaz.2 ⟨o,ho,by simp [e]⟩;rw [ht] at this;cases this
 cases hd:o.dst with
 | none=>rfl
 | some d =>have:d≠t:=λe=>hne (by rw [hd,e]);simp only [Act.put,kau,kal this]
section draw
variable{C:Cx}{N:Nat}{ops:List Oper}{data:List (List Nat×List Nat)}{us:List AS}{s:AS}
theorem zc1{u:AS}{r:Nat}:zac u r≠none↔r∈u.map (·.1):=by
 induction u with
 | nil=>simp [zac]
 | cons p u ih =>
   obtain⟨k,c⟩:=p;rw [zaa];by_cases h:k=r
   .subst h;simp
   .rw [if_neg h,ih];simp;intro e;exact absurd e.symm h
theorem zy3(h:us.length=ops.length){j:Nat}(hj:ops.length<=j)(r:Nat):zac (us.getD j []) r=none:=by rw [kai,kay oc];rfl
def lst(l:Array Bool)(j:Nat):Prop:=l.getD j false=true
def cnt(l:Array Bool):Nat->Nat
 | 0=>0
 | k+1=>cnt l k+bif l.getD k false then 0 else 1
theorem z2e{l:Array Bool}{i:Nat}(hi:i<l.size)(hf:l.getD i false=false):∀k,cnt (l.setIfInBounds i true) k+(if i<k then 1 else 0)=cnt l k
 | 0=>rfl
 | k+1=>by
   have ih:=z2e hi hf k;simp only [cnt];by_cases hk:k=i
   .subst hk;have:(l.setIfInBounds k true).getD k false=true:=by simp [hi]
    rw [this,hf,if_pos oc];rw [if_neg oc] at ih;simp;omega
   .rw [getD_set_ne false (Ne.symm hk)];by_cases hlt:i<k
    .rw [if_pos oc];rw [if_pos hlt] at ih;omega
    .rw [if_neg oc];rw [if_neg hlt] at ih;omega
theorem zlj{l:Array Bool}:∀{k:Nat},cnt l k=0->∀j,j<k->l.getD j false=true
 | 0,_,j,hj=>oc
 | k+1,h,j,hj=>by
   simp only [cnt] at h;rcases kae j k with hlt|hge
   .exact zlj oc j hlt
   .have:j=k:=oc
    subst this;cases hb:l.getD j false with
    | true=>rfl
    | false=>rw [hb] at h;simp at h
theorem zij{D D':Nat->Prop}:∀{k:Nat},(∀j,j<k->(D j↔D' j))->stD us s D k=stD us s D' k
 | 0,_=>rfl
 | k+1,h=>by
   simp only [stD];rw [zij λj hj=>h j oc];by_cases hD:D k
   .rw [if_pos hD,if_pos ((h k oc).1 hD)]
   .rw [if_neg hD,if_neg λe=>hD ((h k oc).2 e)]
end draw
theorem zpi{u:AS}{us:List AS}{s:AS}:∀k,stD (u::us) s (λ_=>True) (k+1)=stD us (u++s) (λ_=>True) k
 | 0=>by simp [stD]
 | k+1=>by have ih:=zpi (u:=u) (us:=us) (s:=s) k;simp only [stD,if_true,List.getD_cons_succ] at ih |-;rw [ih]
def zno:Code->Nat->Bool
 | .region _ ops _,t=>ops.toList.any λo=>o.dst == some t
 | .seq c d,t=>zno c t||zno d t
 | .cond _ c d,t=>zno c t||zno d t
 | .block _ c,t=>zno c t
 | .loop c,t=>zno c t
 | _,_=>false
def zqv(c:Code)(a a':Act):Prop:=∀t,zno c t=false->a'.tmps.getD t undef=a.tmps.getD t undef
theorem zqv.refl(c:Code)(a:Act):zqv c a a:=λ_ _=>rfl
def Sub(G:zbf)(N:Nat)(s s':AS):Prop:=∀(w0:zfq) a w E,Rel G N w0 s a w E->∃E',Rel G N w0 s' a w E'
def zii(P:AS->Prop)(Q:Exit->AS->Prop):Exit->AS->Prop
 | .normal,s=>P s
 | e,s=>Q e s
def zww(id:Nat)(Q:Exit->AS->Prop):Exit->AS->Prop
 | .exit j,s=>bif Nat.beq j id then Q .normal s else Q (.exit j) s
 | e,s=>Q e s
section rules
variable{C:Cx}{r:Option Nat}{N:Nat}{Q:Exit->AS->Prop}{s:AS}{c d:Code}
end rules
def zhk:List AV->Nat->AS
 | [],_=>[]
 | x::xs,i=>(2*i,.av x)::zhk xs (i+1)
theorem zdw:∀{xs:List AV} {i r:Nat} {c:za7},zac (zhk xs i) r=some c->∃j x,xs[j]?=some x/\r=2*(i+j)/\c=.av x
 | [],i,r,c,h=>by cases h
 | x::xs,i,r,c,h=>by
   simp only [zhk] at h;rw [zaa] at h;split at h
   .rename_i e;cases h;exact⟨0,x,rfl,oc,rfl⟩
   .obtain⟨j,y,h1,h2,h3⟩:=zdw h;exact⟨j+1,y,oa h1,oc,h3⟩
def ydd(C:Cx)(s:AS):ResultVar->Option AV
 | .tmp t=>match zac s (2*t) with
   | some (.av x)=>th3 s x
   | _=>none
 | .cell a T=>match zac s (2*a) with
   | some (.av (.ptr i 0))=>match zac s (2*i+1),C.ti T with
     | some (.cells _ xs),some ti=>bif ti.agg then (bif Nat.beq xs.length ti.size then (match zf0 (th1 s) xs with|some ys=>some (.agg ys)|none=>none) else none) else (match xs with|[x]=>th1 s x|_=>none)
     | _,_=>none
   | _=>none
def z4o(C:Cx)(s:AS):List ResultVar->Option (List AV)
 | []=>some []
 | x::xs=>match ydd C s x,z4o C s xs with
   | some y,some ys=>some (y::ys)
   | _,_=>none
def zck(C:Cx)(s:AS)(rs:List ResultVar):Option AV :=
 match z4o C s rs with
 | some [x]=>some x
 | some xs=>some (.tup xs)
 | none=>none
def zkb(tmps:Array Value):ResultVar->Sem Value
 | .tmp t=>pure (tmps.getD t undef)
 | .cell b t=>do loadVar t (<-asAddr (tmps.getD b undef))
section fn
variable{C:Cx}{N:Nat}{s:AS}{w0:zfq}{a:Act}{w:World}{E:Env}
theorem z4p{x:ResultVar}{y:AV}(h:Rel C.G N w0 s a w E)(hx:ydd C s x=some y) :
  ∃v,(zkb a.tmps x).run C.P w=.ok v w/\Rep (zca (zqt E s)) w y v/\y.ids=[]:=by
 cases x with
 | tmp t =>
   simp only [ydd] at hx;split at hx
   .rename_i z hz;exact⟨_,rfl,zy8 h (h.tmp t _ hz) hx,z9g hx⟩
   .cases hx
 | cell b T =>
   simp only [ydd] at hx;split at hx
   .rename_i i hz;have hp:=h.tmp b _ hz;split at hx
    .rename_i T' xs ti hl ht;obtain⟨vs,h1,h2,h3⟩:=h.mem i _ hl;generalize hvp:a.tmps.getD b undef=v at hp;cases hp with
     | ptr =>
       cases ha:ti.agg with
       | true =>
         rw [ha] at hx;simp only [cond_true] at hx;cases hb:Nat.beq xs.length ti.size with
         | false=>rw [hb] at hx;cases hx
         | true =>
           rw [hb] at hx;simp only [cond_true] at hx;have hb:=kaj hb;split at hx
           .rename_i ys hys;cases hx
            obtain⟨us,hru,hrep⟩:=zkz (P:=C.P) (E:=E) (w:=w) (b:=E.mem i) (o:=0) (size:=ti.size) (xs:=xs) hb λj y hy=>by obtain⟨v,hv,hq⟩:=h2.get hy;exact⟨v,by rw [kb0,zj2 h1];exact hv,hq⟩
            have hr3:=zcb (λx y v hx hy=>zjh h hx hy) hrep hys;refine⟨.agg us.toArray,?_,.agg ys us hr3.1 hr3.2,by simpa [AV.ids] using zcu (λ_ _ h=>(zhy h).1) hys⟩;simp only [zkb,hvp,asAddr,Sem.run_bind,Sem.run_pure,Result.andThen_ok,loadVar,Cx.ti_agg ht w,ha,if_true,Cx.ti_size ht w,hru]
           .cases hx
       | false =>
         rw [ha] at hx;simp only [cond_false] at hx;split at hx
         .rename_i x;obtain⟨v,hv,hq⟩:=h2.get (i:=0) rfl;refine⟨v,?_,zjh h hq hx,(zhy hx).1⟩;have:w.cell? ⟨E.mem i,0,none⟩=some v:=by rw [zj2 h1];exact hv
          simp only [zkb,hvp,asAddr,Sem.run_bind,Sem.run_pure,Result.andThen_ok,loadVar,Cx.ti_agg ht w,ha,kbd,if_false,run_load,this]
         .cases hx
    .cases hx
   .cases hx
theorem zem(h:Rel C.G N w0 s a w E):∀{xs:List ResultVar} {ys:List AV},z4o C s xs=some ys->
  ∃vs,(xs.mapM (zkb a.tmps)).run C.P w=.ok vs w/\yf1 (zca (zqt E s)) w ys vs/\zbb ys=[]
 | [],ys,e=>by cases e;exact⟨[],od,yf1.nil _ _,rfl⟩
 | x::xs,ys,e=>by
   simp only [z4o] at e;split at e
   .rename_i y ys' e1 e2;cases e
    obtain⟨v,h1,h2,h3⟩:=z4p h e1;obtain⟨vs,g1,g2,g3⟩:=zem h e2;refine⟨v::vs,?_,yf1.cons h2 g2,by simp [zbb,h3,g3]⟩;rw [kd3];simp only [Sem.run_bind,h1,Result.andThen_ok,g1,Sem.run_pure]
   .cases e
end fn
theorem zkf{xs:List AV}(h:zbb xs=[]){x:AV}(hx:x∈xs):x.ids=[]:=by refine kc4.2 λk hk=>?_;have:k∈zbb xs:=zal.2 ⟨x,hx,hk⟩;rw [h] at this;cases this
theorem zz5{G:zbf}{N:Nat}{imm:Nat->Prop}{w:World}{vs:List Value}{args:List AV}(hN:args.length<=N)(hids:zbb args=[])(h1:∀b,imm b->b<w.heap.size)(hg:zb3 G (zca imm) w)(hr:yf1 (zca imm) w args vs) :
  Rel G N { toWorld:=w,base:=w.heap.size,hold:=λ_=>False,old:=imm } (zhk args 0) { tmps:=vs.toArray++Array.replicate (N-vs.toArray.size) undef,defers:=[] } w (zca imm):=by
 have hodd:∀i,zac (zhk args 0) (2*i+1)=none:=λi=>by
  cases h:zac (zhk args 0) (2*i+1) with
  | none=>rfl
  | some c=>obtain⟨j,x,_,h2,_⟩:=zdw h;omega
 have hl:=hr.1
 refine⟨by simp;omega,rfl,⟨kd4,λD hD=>by cases hD⟩,λt x hx=>?_,λi c hc=>(by rw [hodd] at hc;cases hc),λi j b _ hb=>(by rw [hodd] at hb;cases hb),λi b hb=>(by rw [hodd] at hb;cases hb),h1,⟨Below.refl _ _,λ_ _ _=>rfl,kac _⟩,λb hb _=>hb,λk c hk i hi=>?_,hg⟩
 .obtain⟨j,y,h2,h3,h4⟩:=zdw hx;cases h4
  have:t=j:=oc
  subst this;obtain⟨v,hv,hq⟩:=hr.get h2;have hlt:=(kab.1 hv).1;have:(vs.toArray++Array.replicate (N-vs.toArray.size) undef).getD t undef=v:=by rw [kau,kb3 (oa hlt)];simp [hv]
  rw [this];exact hq
 .obtain⟨j,y,h2,h3,h4⟩:=zdw hk;subst h4;simp only [za7.ids] at hi;rw [zkf hids (kag h2)] at hi;cases hi
def zn5:List Value->Value
 | [v]=>v
 | vs=>.tuple vs.toArray
theorem zg6{vs:List Value}(h:vs.length≠1):zn5 vs=.tuple vs.toArray:=by
 match vs,h with
 | [],_=>rfl
 | [v],h=>simp at h
 | a::b::l,_=>rfl
theorem zbw{P:Program}{fn:Func}{tmps:Array Value}{w:World}{vs:List Value}
  (h:(fn.results.toList.mapM (zkb tmps)).run P w=.ok vs w) :
  (results fn tmps).run P w=.ok (zn5 vs) w:=by
 have e:results fn tmps=(do let vs <-fn.results.mapM (zkb tmps);pure (if h:vs.size=1 then vs[0] else .tuple vs)):=by unfold results;congr 2
 rw [e]
 rw [kdj]
 simp only [map_eq_pure_bind,bind_assoc,pure_bind,Sem.run_bind]
 rw [h]
 simp only [Result.andThen_ok,Sem.run_pure]
 match vs with
 | []=>simp [zn5]
 | [v]=>simp [zn5]
 | a::b::l=>simp [zn5]
mutual
def AV.ren(ρ:Nat->Nat):AV->AV
 | .val v=>.val v
 | .agg xs=>.agg (ztr ρ xs)
 | .tup xs=>.tup (ztr ρ xs)
 | .sl wd xs=>.sl wd xs
 | .own i=>.own (ρ i)
 | .ptr i o=>.ptr (ρ i) o
 | .elt wd xs n o=>.elt wd xs n o
 | .oelt wd i n o=>.oelt wd (ρ i) n o
 | .osl wd i lo n=>.osl wd (ρ i) lo n
 | .psl i o n=>.psl (ρ i) o n
 | .fn f a b=>.fn f (ztr ρ a) (ztr ρ b)
def ztr(ρ:Nat->Nat):List AV->List AV
 | []=>[]
 | x::xs=>x.ren ρ::ztr ρ xs
end
theorem zen{ρ:Nat->Nat}:∀{xs:List AV},ztr ρ xs=xs.map (AV.ren ρ)
 | []=>rfl
 | x::xs=>by simp [ztr,zen (xs:=xs)]
def Env.ren(E:Env)(ρ:Nat->Nat):Env:=⟨E.imm,λi=>E.mem (ρ i),λi=>E.buf (ρ i),E.dfs⟩
mutual
theorem zz0{E:Env}{ρ:Nat->Nat}{w:World}:∀{x:AV} {v:Value},Rep E w (x.ren ρ) v->Rep (E.ren ρ) w x v
 | .val u,v,h=>by cases h;exact .val _
 | .agg xs,v,h=>by
   simp only [AV.ren] at h;cases h with
   | agg _ vs hl hh=>exact .agg xs vs (by rw [<-hl,zen,ka6]) (zg7 hh)
 | .tup xs,v,h=>by
   simp only [AV.ren] at h;cases h with
   | tup _ vs hl hh=>exact .tup xs vs (by rw [<-hl,zen,ka6]) (zg7 hh)
 | .sl wd xs,v,h=>Rep.step (E:=E) (E':=E.ren ρ) (λ_ h=>h) (zdy.refl E w) (by simpa only [AV.ren] using h) ox
 | .own i,v,h=>by
   simp only [AV.ren] at h;cases h with
   | own _ hh=>exact .own (E:=E.ren ρ) i hh
 | .ptr i o,v,h=>by
   simp only [AV.ren] at h;cases h with
   | ptr=>exact .ptr (E:=E.ren ρ) i o
 | .elt wd xs n o,v,h=>Rep.step (E:=E) (E':=E.ren ρ) (λ_ h=>h) (zdy.refl E w) (by simpa only [AV.ren] using h) ox
 | .oelt wd i n o,v,h=>by
   simp only [AV.ren] at h;cases h with
   | oelt _ _ _ _ g l c hg=>exact .oelt (E:=E.ren ρ) wd i n o g l c hg
 | .osl wd i lo n,v,h=>by
   simp only [AV.ren] at h;cases h with
   | osl _ _ _ _ g l c hg=>exact .osl (E:=E.ren ρ) wd i lo n g l c hg
 | .psl i o n,v,h=>by
   simp only [AV.ren] at h;cases h with
   | psl=>exact .psl (E:=E.ren ρ) i o n
 | .fn f a b,v,h=>by
   simp only [AV.ren] at h;cases h with
   | fn _ _ _ vs us hl hm hh hk=>exact .fn f a b vs us (by rw [<-hl,zen,ka6]) (by rw [<-hm,zen,ka6]) (zg7 hh) (zg7 hk)
theorem zg7{E:Env}{ρ:Nat->Nat}{w:World}:∀{xs:List AV} {vs:List Value},(∀(i:Nat) x v,(ztr ρ xs)[i]?=some x->vs[i]?=some v->Rep E w x v)->∀(i:Nat) x v,xs[i]?=some x->vs[i]?=some v->Rep (E.ren ρ) w x v
 | [],vs,h,i,x,v,hx,hv=>by simp at hx
 | y::ys,vs,h,0,x,v,hx,hv=>by
   have hx:y=x:=oa hx
   rw [<-hx];exact zz0 (h 0 (y.ren ρ) v (by simp [ztr]) hv)
 | y::ys,vs,h,i+1,x,v,hx,hv =>
   zg7 (xs:=ys) (vs:=vs.drop 1) (λj x v hx hv=>h (j+1) x v (by simpa [ztr] using hx) (by simpa [kbb,Nat.add_comm] using hv)) i x v (oa hx) (by simpa [kbb,Nat.add_comm] using hv)
end
mutual
theorem z9v{ρ:Nat->Nat}:∀{x:AV},(x.ren ρ).ids=x.ids.map ρ
 | .val _=>rfl
 | .agg xs=>by simp only [AV.ren,AV.ids];exact zin
 | .tup xs=>by simp only [AV.ren,AV.ids];exact zin
 | .sl _ _=>rfl
 | .own _=>rfl
 | .ptr _ _=>rfl
 | .elt _ _ _ _=>rfl
 | .oelt _ _ _ _=>rfl
 | .osl _ _ _ _=>rfl
 | .psl _ _ _=>rfl
 | .fn _ a b=>by simp only [AV.ren,AV.ids,kbt];rw [zin (xs:=a),zin (xs:=b)]
theorem zin{ρ:Nat->Nat}:∀{xs:List AV},zbb (ztr ρ xs)=(zbb xs).map ρ
 | []=>rfl
 | x::xs=>by simp only [ztr,zbb,kbt];rw [z9v (x:=x),zin (xs:=xs)]
end
theorem z4v{ρ:Nat->Nat}:∀{x:AV},(x.ren ρ).atom=x.atom
 | .val _=>rfl
 | .agg _=>rfl
 | .tup _=>rfl
 | .sl _ _=>rfl
 | .own _=>rfl
 | .ptr _ _=>rfl
 | .elt _ _ _ _=>rfl
 | .oelt _ _ _ _=>rfl
 | .osl _ _ _ _=>rfl
 | .psl _ _ _=>rfl
 | .fn _ _ _=>rfl
def za7.ren(ρ:Nat->Nat):za7->za7
 | .av x=>.av (x.ren ρ)
 | .cells T xs=>.cells T (ztr ρ xs)
 | c=>c
def z5f(ρ:Nat->Nat)(k:Nat):Nat:=bif Nat.beq (k % 2) 0 then k else 2*ρ (k / 2)+1
theorem yeq:Nat.beq 1 0=false:=rfl
theorem z04{ρ:Nat->Nat}{t:Nat}:z5f ρ (2*t)=2*t:=by simp [z5f]
theorem z5e{ρ:Nat->Nat}{t:Nat}:z5f ρ (2*t+1)=2*ρ t+1:=by
 have h1:(2*t+1) % 2=1:=oc
 have h2:(2*t+1) / 2=t:=oc
 simp [z5f,h1,h2,yeq]
def z65(ρ:Nat->Nat)(s:AS):AS->Prop
 | []=>True
 | (k,c)::l=>zac s (z5f ρ k)=some (c.ren ρ)/\z65 ρ s l
theorem zph{ρ:Nat->Nat}{s:AS}:∀{l:AS},z65 ρ s l->∀{k:Nat} {c:za7},zac l k=some c->zac s (z5f ρ k)=some (c.ren ρ)
 | [],_,k,c,h=>by cases h
 | (j,d)::l,hs,k,c,h=>by
   rw [zaa] at h;split at h
   .rename_i e;cases h;rw [<-e];exact hs.1
   .exact zph hs.2 h
def zeb:AS->List Nat
 | []=>[]
 | (k,_)::l=>bif Nat.beq (k % 2) 0 then zeb l else k / 2::zeb l
theorem z0q{s:AS}{i:Nat}(h:zac s (2*i+1)≠none):i∈zeb s:=by
 induction s with
 | nil=>exact absurd rfl h
 | cons p l ih =>
   obtain⟨k,c⟩:=p;rw [zaa] at h;simp only [zeb];split at h
   .rename_i e;subst e;have h1:(2*i+1) % 2=1:=oc
    have h2:(2*i+1) / 2=i:=oc
    simp [h1,h2,yeq]
   .have:=ih h;cases Nat.beq (k % 2) 0<;>simp [this]
def zod(ρ:Nat->Nat):List Nat->Bool
 | []=>true
 | i::l=>l.all (λj=>Nat.beq j i||!Nat.beq (ρ j) (ρ i))&&zod ρ l
theorem zoc{ρ:Nat->Nat}:∀{l:List Nat},zod ρ l=true->∀i∈l,∀j∈l,ρ i=ρ j->i=j
 | [],_,i,hi,_,_,_=>by cases hi
 | a::l,h,i,hi,j,hj,e=>by
   simp only [zod,ka0,kar,kc1,kb7] at h;rcases kat.1 hi with hia|hi
   .rcases kat.1 hj with hja|hj
    .rw [hia,hja]
    .rcases h.1 j hj with h1|h1
     .rw [hia];exact(kaj h1).symm
     .rw [<-e,hia] at h1;simp at h1
   .rcases kat.1 hj with hja|hj
    .rcases h.1 i hi with h1|h1
     .rw [hja];exact kaj h1
     .rw [e,hja] at h1;simp at h1
    .exact zoc h.2 i hi j hj e
def zhp(names:List Nat):AS->Bool
 | []=>true
 | (_,c)::l=>c.ids.all (λi=>names.any (Nat.beq i))&&zhp names l
theorem zn0{ns:List Nat}:∀{s:AS},zhp ns s=true->∀{k:Nat} {c:za7},zac s k=some c->∀i∈c.ids,i∈ns
 | [],_,k,c,h,_,_=>by cases h
 | (j,d)::l,hs,k,c,h,i,hi=>by
   simp only [zhp,ka0,kar] at hs;rw [zaa] at h;split at h
   .cases h;have:=hs.1 i hi
    obtain⟨j,hj,e⟩:=kaz.1 this;rw [kaj e];exact hj
   .exact zn0 hs.2 h i hi
theorem zjn:∀{s:AS} {i:Nat},i∈zeb s->zac s (2*i+1)≠none
 | [],i,h=>by cases h
 | (k,c)::l,i,h=>by
   rw [zaa];split
   .simp
   .rename_i e;simp only [zeb] at h;cases hb:Nat.beq (k % 2) 0 with
    | true=>rw [hb] at h;exact zjn h
    | false =>
      rw [hb] at h;rcases kat.1 h with h|h
      .have:k % 2=1:=by
         have:k % 2≠0:=λh0=>by rw [h0] at hb;simp at hb
         omega
       omega
      .exact zjn h
theorem ybg{E:Env}{ρ:Nat->Nat}{i:Nat}{c:za7}:blk (E.ren ρ) i (some c)=blk E (ρ i) (some (c.ren ρ)):=by cases c<;>rfl
theorem zbg{G:zbf}{N:Nat}{s s':AS}(ρ:Nat->Nat)(h:z65 ρ s s')(hi:zod ρ (zeb s')=true)(hs:zhp (zeb s') s'=true):Sub G N s s':=λw0 a w E hr=>by
 have hlk:∀i c,zac s' (2*i+1)=some c->zac s (2*ρ i+1)=some (c.ren ρ):=λi c hc=>by have:=zph h hc;rwa [z5e] at this
 have hblk:∀i b,blk (E.ren ρ) i (zac s' (2*i+1))=some b->blk E (ρ i) (zac s (2*ρ i+1))=some b:=λi b hb=>by
  cases hl:zac s' (2*i+1) with
  | none=>rw [hl] at hb;cases hb
  | some c=>rw [hl,ybg] at hb;rw [hlk i c hl];exact hb
 have hin:∀i b,blk (E.ren ρ) i (zac s' (2*i+1))=some b->i∈zeb s':=λi b hb=>z0q λh0=>by rw [h0] at hb;cases hb
 refine⟨E.ren ρ,hr.sz,hr.df,hr.dfo,λt x hx=>?_,λi c hc=>?_,λi j b hij h1 h2=>?_,λi b hb=>hr.new _ b (hblk i b hb),hr.imm,hr.ext,hr.old,λk c hk i hi2=>zjn (zn0 hs hk i hi2),?_⟩
 .have:=zph h hx;rw [z04] at this;exact zz0 (hr.tmp t _ this)
 .have h1:=hlk i c hc;have h2:=hr.mem _ _ h1;cases c with
  | av a=>exact h2
  | dead=>trivial
  | mp kvs=>exact h2
  | frz wd rows=>exact Rep.step (E:=E) (E':=E.ren ρ) (λ_ h=>h) (zdy.refl E w) h2 ox
  | cells T xs =>obtain⟨vs,g1,g2,g3⟩:=h2;refine⟨vs,g1,⟨by rw [<-g2.1,zen,ka6],zg7 g2.2⟩,λx hx=>?_⟩;have:=g3 (x.ren ρ) (by rw [zen];exact kav.2 ⟨x,hx,rfl⟩);rwa [z4v] at this
  | buf wd T rows =>obtain⟨g1,vs,g2,g3⟩:=h2;refine⟨g1,vs,g2,yf1.step (E:=E) (E':=E.ren ρ) (λ_ h=>h) (zdy.refl E w) g3 λk hk=>absurd hk (zpx (λx hx=>?_) k)⟩;obtain⟨r,hr1,hr2⟩:=kci.1 hx;exact((g1 r hr1).2 x hr2).1
 .have:=zoc hi i (hin i b h1) j (hin j b h2);exact hr.dis (ρ i) (ρ j) b (λe=>hij (this e)) (hblk i b h1) (hblk j b h2)
 .exact zb3.step (E:=E) (E':=E.ren ρ) hr.glb (λ_ h=>h) (zdy.refl E w)
theorem Sub.trans{G:zbf}{N:Nat}{s t u:AS}(h:Sub G N s t)(k:Sub G N t u):Sub G N s u:=λw0 a w E hr=>let ⟨E',h'⟩:=h w0 a w E hr;k w0 a w E' h'
theorem zn8:(∀x:AV,x.ren (λi=>i)=x):=λx=>by
 refine AV.rec (motive_1:=λx=>x.ren (λi=>i)=x) (motive_2:=λxs=>ztr (λi=>i) xs=xs) (motive_3:=λ_=>True) ?_ ?_ ?_ ?_ ?_ ?_ ?_ ?_ ?_ ?_ ?_ ?_ ?_ ?_ ?_ x
 .intro v;rfl
 .intro xs h;simp only [AV.ren,h]
 .intro xs h;simp only [AV.ren,h]
 .intro wd xs _;rfl
 .intro i;rfl
 .intro i o;rfl
 .intro wd xs n o _;rfl
 .intro wd i n o;rfl
 .intro wd i n o;rfl
 .intro i o n;rfl
 .intro f a b h k;simp only [AV.ren,h,k]
 .rfl
 .intro x xs h k;simp only [ztr,h,k]
 .trivial
 .intros;trivial
theorem zuo(c:za7):c.ren (λi=>i)=c:=by
 cases c with
 | av x=>simp only [za7.ren,zn8]
 | cells T xs=>simp only [za7.ren,zen];congr 1;exact(kcn λx _=>zn8 x).trans (List.map_id _)
 | _=>rfl
def yb7(s:AS):AS->Prop
 | []=>True
 | (k,c)::l=>zac s k=some c/\yb7 s l
theorem zzf:∀{s l:AS},yb7 s l->z65 (λi=>i) s l
 | s,[],_=>trivial
 | s,(k,c)::l,h=>⟨by
   have:z5f (λi=>i) k=k:=by
    unfold z5f;cases hb:Nat.beq (k % 2) 0 with
    | true=>rfl
    | false =>
      have:k % 2≠0:=λh0=>by rw [h0] at hb;simp at hb
      simp only [cond_false];omega
   rw [this,zuo];exact h.1,zzf h.2⟩
theorem zv0:∀{l:List Nat},zod (λi=>i) l=true
 | []=>rfl
 | i::l=>by simp only [zod,zv0 (l:=l),Bool.and_true,kar];intro j _;cases Nat.beq j i<;>rfl
theorem znv{G:zbf}{N:Nat}{s s':AS}(h:yb7 s s')(hs:zhp (zeb s') s'=true):Sub G N s s':=zbg (λi=>i) (zzf h) zv0 hs
section drive
variable{C:Cx}{r:Option Nat}{N:Nat}{ops rest:List Oper}{dr:Bool}{K:AS->Prop}{o:Oper}{acc:List (List Nat×List Nat)}{R:List Nat}{s:AS}{k k2 k3:Nat}{c c2 c3:za7}
end drive
section kind
variable{C:Cx}{r:Option Nat}{N:Nat}{R:List Nat}{s u:AS}{d:Nat}{ty:TypeId}{pos:String}{af:Array Edge}{g:Option (Nat×Bool)}
theorem z71{x y z:Operand}(h:AOp C N ⟨some d,.pick x y z,ty,pos,af,g⟩ R s u):AOp C N ⟨some d,.pick x y z,ty,pos,af,g⟩ R s u:=h
theorem z07{t:TypeId}{x:Operand}{f:Nat}(h:AOp C N ⟨some d,.fieldAddr t x f,ty,pos,af,g⟩ R s u):AOp C N ⟨some d,.fieldAddr t x f,ty,pos,af,g⟩ R s u:=h
theorem z72{t:TypeId}{x:Operand}(h:AOp C N ⟨some d,.load t x,ty,pos,af,g⟩ R s u):AOp C N ⟨some d,.load t x,ty,pos,af,g⟩ R s u:=h
theorem k_bin{o:BinOp}{t t':TypeId}{x y:Operand}(h:AOp C N ⟨some d,.binOp o t x y t',ty,pos,af,g⟩ R s u):AOp C N ⟨some d,.binOp o t x y t',ty,pos,af,g⟩ R s u:=h
theorem z06{t:TypeId}{x y:Operand}(h:AOp C N ⟨some d,.indexAddr t x y,ty,pos,af,g⟩ R s u):AOp C N ⟨some d,.indexAddr t x y,ty,pos,af,g⟩ R s u:=h
theorem zv6{c:Call}(h:AOp C N ⟨some d,.call c,ty,pos,af,g⟩ R s u):AOp C N ⟨some d,.call c,ty,pos,af,g⟩ R s u:=h
theorem z05{t:TypeId}{x y:Operand}(h:AOp C N ⟨none,.store t x y,ty,pos,af,g⟩ R s u):AOp C N ⟨none,.store t x y,ty,pos,af,g⟩ R s u:=h
theorem yag{t:TypeId}{n:Nat}{ps:Array (Nat×Operand)}(h:AOp C N ⟨some d,.buildSlice t n ps,ty,pos,af,g⟩ R s u):AOp C N ⟨some d,.buildSlice t n ps,ty,pos,af,g⟩ R s u:=h
end kind
theorem zg3{s:AS}:yb7 s []:=trivial
theorem ze5{s l:AS}{k:Nat}{c:za7}(h:zac s k=some c)(t:yb7 s l):yb7 s ((k,c)::l):=⟨h,t⟩
theorem z4c{ρ:Nat->Nat}{s:AS}:z65 ρ s []:=trivial
theorem zzg{ρ:Nat->Nat}{s l:AS}{k:Nat}{c:za7}(h:zac s (z5f ρ k)=some (c.ren ρ))(t:z65 ρ s l):z65 ρ s ((k,c)::l):=⟨h,t⟩
def rn1(a b i:Nat):Nat:=bif Nat.beq i a then b else i
def rn2(a b c d i:Nat):Nat:=bif Nat.beq i a then b else bif Nat.beq i c then d else i
theorem zbd{G:zbf}{N:Nat}{s:AS}(t i wd:Nat)(T:TypeId)(hf:zac s (2*i+1)=none)(ht:zac s (2*t)=some (.av (.val (.slice none 0 0)))) :
  Sub G N s ((2*t,.av (.own i))::(2*i+1,.buf wd T [])::s):=λw0 a w E hr=>by
 have h1:=hr.newbuf (i:=i) (wd:=wd) (T:=T) (rows:=[]) (vs:=[]) (v:=.slice none 0 0) hf ⟨od,.inl ⟨rfl,rfl⟩⟩ (λb hb=>by cases hb) (yf1.nil _ _) od
 refine⟨_,h1.sz,h1.df,h1.dfo,λt' x hx=>?_,λj c hc=>h1.mem j c (by rw [zaa,if_neg (oc)] at hc;exact hc),λj k b hjk hb=>?_,λj b hb=>h1.new j b (by rw [zaa,if_neg (oc)] at hb;exact hb),h1.imm,h1.ext,h1.old,λk c hk j hj=>?_,h1.glb⟩
 .rw [zaa] at hx;split at hx
  .rename_i e;cases hx
   have:t'=t:=oc
   subst this;have hv:=hr.tmp _ _ ht;rw [hv.val_eq];have:=Rep.own (E:=E.bufAt i (.slice none 0 0)) (w:=w) i oE;simpa [Env.bufAt] using this
  .exact h1.tmp t' x hx
 .rw [zaa,if_neg oc] at hb |-;exact h1.dis j k b hjk hb
 .rw [zaa,if_neg oc];rw [zaa] at hk;split at hk
  .cases hk;simp [za7.ids,AV.ids] at hj;subst hj;rw [zaa,if_pos rfl];simp
  .exact h1.scp k c hk j hj
def fnD:TypeDesc->Bool
 | .func _ _ _=>true
 | _=>false
section fnil
variable{C:Cx}{N:Nat}{s:AS}{d:Nat}{ty:TypeId}{pos:String}{af:Array Edge}{g:Option (Nat×Bool)}{x y:Operand}{t t':TypeId}{ps rs:Array TypeId}{vr:Bool}{fn:Fn}
theorem zwq(w:World){P:Program}(hu:P.underlying t=some (.func ps rs vr)):(Op.equal t .nilFunc .nilFunc).run P w=.ok true w:=by
 have:∀d,(Op.equalIn (d+1) t .nilFunc .nilFunc).run P w=.ok true w:=λd=>by rw [Op.equalIn];simp [run_underlying hu,go_sem]
 exact this 9999
theorem zwr(w:World){P:Program}(hu:P.underlying t=some (.func ps rs vr)):(Op.equal t (.func fn #[] #[]) .nilFunc).run P w=.ok false w:=by
 have:∀d,(Op.equalIn (d+1) t (.func fn #[] #[]) .nilFunc).run P w=.ok false w:=λd=>by rw [Op.equalIn];simp [run_underlying hu,go_sem]
 exact this 9999
theorem zwg{P:Program}{t:TypeId}(h:(P.underlying t).map fnD=some true):∃ps rs vr,P.underlying t=some (.func ps rs vr):=by
 cases hu:P.underlying t with
 | none=>rw [hu] at h;cases h
 | some d =>
   rw [hu] at h;cases d<;>first|exact⟨_,_,_,rfl⟩|(simp [fnD] at h)
theorem z8u(hd:d<N)(hx:ev s x=some (.val .nilFunc))(hy:ev s y=some (.val .nilFunc))(hu:(C.P.underlying t).map fnD=some true):AOp C N ⟨some d,.binOp .eql t x y t',ty,pos,af,g⟩ (rds x++rds y) s [(2*d,.av (.val (.bool true)))] :=
 have⟨_,_,_,hf⟩:=zwg hu
 zb2 hd hx hy λρ w e1 e2=>by simp [execOp,e1,e2,eqGuard,binOp,zwq w hf]
theorem z8p(hd:d<N)(hx:ev s x=some (.val .nilFunc))(hy:ev s y=some (.val .nilFunc))(hu:(C.P.underlying t).map fnD=some true):AOp C N ⟨some d,.binOp .neq t x y t',ty,pos,af,g⟩ (rds x++rds y) s [(2*d,.av (.val (.bool false)))] :=
 have⟨_,_,_,hf⟩:=zwg hu
 zb2 hd hx hy λρ w e1 e2=>by simp [execOp,e1,e2,eqGuard,binOp,zwq w hf]
theorem z8v(hd:d<N)(hx:ev s x=some (.val (.func fn #[] #[])))(hy:ev s y=some (.val .nilFunc))(hu:(C.P.underlying t).map fnD=some true):AOp C N ⟨some d,.binOp .eql t x y t',ty,pos,af,g⟩ (rds x++rds y) s [(2*d,.av (.val (.bool false)))] :=
 have⟨_,_,_,hf⟩:=zwg hu
 zb2 hd hx hy λρ w e1 e2=>by simp [execOp,e1,e2,eqGuard,binOp,zwr w hf]
theorem z8q(hd:d<N)(hx:ev s x=some (.val (.func fn #[] #[])))(hy:ev s y=some (.val .nilFunc))(hu:(C.P.underlying t).map fnD=some true):AOp C N ⟨some d,.binOp .neq t x y t',ty,pos,af,g⟩ (rds x++rds y) s [(2*d,.av (.val (.bool true)))] :=
 have⟨_,_,_,hf⟩:=zwg hu
 zb2 hd hx hy λρ w e1 e2=>by simp [execOp,e1,e2,eqGuard,binOp,zwr w hf]
end fnil
section more
variable{C:Cx}{N:Nat}{s:AS}{d:Nat}{ty:TypeId}{pos:String}{af:Array Edge}{g:Option (Nat×Bool)}{x y:Operand}{t t':TypeId}{k k':IntKind}{m n:Int}
theorem a_rem(hd:d<N)(hx:ev s x=some (.val (.int k m)))(hy:ev s y=some (.val (.int k n)))(h0:0<=m/\0<n):AOp C N ⟨some d,.binOp .rem t x y t',ty,pos,af,g⟩ (rds x++rds y) s [(2*d,.av (.val (.int k (m % n))))] :=
 zb2 hd hx hy λρ w e1 e2=>by
  have hn:n≠0:=oc
  have:m.tmod n=m % n:=Int.tmod_eq_emod_of_nonneg h0.1;simp [execOp,e1,e2,eqGuard,binOp,Op.intDiv,hn,this]
theorem a_quo(hd:d<N)(hx:ev s x=some (.val (.int k m)))(hy:ev s y=some (.val (.int k n)))(h0:0<=m/\0<n)(h:inI k (m / n)):AOp C N ⟨some d,.binOp .quo t x y t',ty,pos,af,g⟩ (rds x++rds y) s [(2*d,.av (.val (.int k (m / n))))] :=
 zb2 hd hx hy λρ w e1 e2=>by
  have hn:n≠0:=oc
  have e:m.tdiv n=m / n:=Int.tdiv_eq_ediv_of_nonneg h0.1;simp [execOp,e1,e2,eqGuard,binOp,Op.intDiv,hn,e,show k.wrap (m / n)=m / n from h]
end more
theorem zh1{G:zbf}{N:Nat}{s:AS}{T:TypeId}{xs:List AV}(m c i wd:Nat)(Tb:TypeId)(hm:zac s (2*m+1)=some (.cells T xs))(hf:zac s (2*i+1)=none)(hc:xs[c]?=some (.val (.slice none 0 0))) :
  Sub G N s ((2*m+1,.cells T (xs.set c (.own i)))::(2*i+1,.buf wd Tb [])::s):=λw0 a w E hr=>by
 have hmi:m≠i:=λe=>by rw [e,hf] at hm;cases hm
 have h1:=hr.newbuf (i:=i) (wd:=wd) (T:=Tb) (rows:=[]) (vs:=[]) (v:=.slice none 0 0) hf ⟨od,.inl ⟨rfl,rfl⟩⟩ (λb hb=>by cases hb) (yf1.nil _ _) od
 have hm1:zac ((2*i+1,za7.buf wd Tb [])::s) (2*m+1)=some (.cells T xs):=by rw [zaa,if_neg oc];exact hm
 obtain⟨vs,h2,h3,h4⟩:=h1.mem m _ hm1
 have hblk:blk (E.bufAt i (.slice none 0 0)) m (zac ((2*i+1,za7.buf wd Tb [])::s) (2*m+1))=some ((E.bufAt i (.slice none 0 0)).mem m):=by rw [hm1];rfl
 have hcl:c<xs.length:=(kab.1 hc).1
 obtain⟨v,hv,hrv⟩:=h3.get hc
 have hvn:v=.slice none 0 0:=hrv.val_eq
 have hset:vs=vs.set c (.slice none 0 0):=by have:c<vs.length:=(kab.1 hv).1;have e:=kab.1 hv;rw [<-hvn,<-e.2];exact(kc9 this).symm
 refine⟨_,h1.setmem (c:=.cells T (xs.set c (.own i))) ⟨vs,h2,?_,?_⟩ ?_ ?_⟩
 .rw [hset];refine h3.set ?_;have:=Rep.own (E:=E.bufAt i (.slice none 0 0)) (w:=w) i oE;simpa [Env.bufAt] using this
 .intro x hx;rcases kbh hx with h|h
  .exact h4 x h
  .subst h;rfl
 .intro b hb;have hbm:(E.bufAt i (.slice none 0 0)).mem m=b:=by simpa [blk] using hb
  obtain⟨p,q,r⟩:=h1.new m b (by rw [hblk,hbm]);exact⟨p,q,r,λj hj=>h1.dis m j b (λe=>hj e.symm) (by rw [hblk,hbm])⟩
 .intro k hk;simp only [za7.ids] at hk;obtain⟨x,hx,hxk⟩:=zal.1 hk;rcases kbh hx with h|h
  .exact .inl (h1.scp _ _ hm1 k oL)
  .subst h;simp [AV.ids] at hxk;subst hxk;exact .inl (by rw [zaa,if_pos rfl];simp)
end Go.Ab
namespace Go.Kp
abbrev Fp:=Nat->Prop
end Go.Kp
namespace Go.Ab
open Go Go.RowKit Go.Kp
section
variable{G:zbf}{N:Nat}{w0:zfq}{s s':AS}{a a':Act}{w w':World}{E E':Env}
def za1(E:Env)(s:AS)(k:Nat):Prop:=∃i,blk E i (zac s (2*i+1))=some k
theorem Rel.regs(h:Rel G N w0 s a w E){E':Env}{a':Act}(hz:a'.tmps.size=a.tmps.size)(ht:∀t x,zac s (2*t)=some (.av x)->a'.tmps.getD t undef=a.tmps.getD t undef)(hE:E'={ E with dfs:=[] })(hd:a'.defers=[]):Rel G N w0 s a' w E':=by
 have h1:Rel G N w0 s { a with defers:=[] } w { E with dfs:=[] }:=h.move rfl rfl ⟨kd4,λD hD=>by cases hD⟩ rfl (λ_ h=>h) (zdy.refl E w) (λ_ _=>⟨rfl,rfl⟩) (λi b hb=>⟨rfl,(h.new i b hb).2.1,(h.new i b hb).1⟩) h.imm (kac _) h.ext h.old;subst hE;exact⟨hz.trans h.sz,hd,h1.dfo,λt x hx=>by rw [ht t x hx];exact h1.tmp t x hx,h1.mem,h1.dis,h1.new,h1.imm,h1.ext,h1.old,h1.scp,h1.glb⟩
def ztv:List Tmp->List AV->AS->AS
 | p::ps,x::xs,s=>ztv ps xs ((2*p,.av x)::s)
 | _,_,s=>s
theorem zvr:∀{ps:List Tmp} {xs:List AV} {vs:List Value} {s:AS} {a:Act},Rel G N w0 s a w E->ps.length=xs.length->(∀p∈ps,p<N)->yf1 E w xs vs->zbb xs=[]->
  Rel G N w0 (ztv ps xs s) { a with tmps:=(ps.zip vs).foldl (λt (p,v)=>t.setIfInBounds p v) a.tmps } w E
 | [],[],vs,s,a,h,_,_,_,_=>by simpa [ztv] using h
 | [],x::xs,_,_,_,_,hl,_,_,_=>by simp at hl
 | p::ps,[],_,_,_,_,hl,_,_,_=>by simp at hl
 | p::ps,x::xs,vs,s,a,h,hl,hp,hr,hi=>by obtain⟨v,us,rfl,h1,h2⟩:=hr.inv;simp only [zbb,List.append_eq_nil_iff] at hi;have h3:=h.put (d:=p) (hp p od) h1 (by rw [hi.1];simp);have:=zvr (ps:=ps) (xs:=xs) h3 (oa hl) (λq hq=>hp q (by simp [hq])) h2 hi.2;simpa [ztv,Act.put] using this
theorem zrp:∀{ps:List Tmp} {vs:List Value} {tm:Array Value} {t:Nat},t∉ps->((ps.zip vs).foldl (λt (p,v)=>t.setIfInBounds p v) tm).getD t undef=tm.getD t undef
 | [],_,_,_,_=>od
 | p::ps,[],_,_,_=>od
 | p::ps,v::vs,tm,t,h=>by simp only [kat,not_or] at h;rw [List.zip_cons_cons,List.foldl_cons,zrp h.2];simp only [kau,kal (Ne.symm h.1)]
theorem zis:∀{ps:List Tmp} {xs:List AV} {s:AS} {i:Nat},zac (ztv ps xs s) (2*i+1)=zac s (2*i+1)
 | [],_,_,_=>by simp [ztv]
 | p::ps,[],_,_=>by simp [ztv]
 | p::ps,x::xs,s,i=>by rw [ztv,zis,zaa,if_neg oc]
end
end Go.Ab
namespace Go.Ab
open Go Go.RowKit
section
def zb4{κ:Type} [DecidableEq κ](a:κ):List (κ×Value)->Nat->Option (Nat×Value)
 | [],_=>none
 | (k,v)::r,i=>if a=k then some (i,v) else zb4 a r (i+1)
structure zkn{κ:Type} [DecidableEq κ](P:Program)(kt:TypeId)(ek:κ->Value):Prop where
 find:∀(a:κ) (es:List MapEntry) (kvs:List (κ×Value)) (w:World),es.map (λe=>(e.key,e.val))=kvs.map (λp=>(ek p.1,p.2))->(Instr.findKey kt (ek a) es).run P w=.ok (zb4 a kvs 0) w
 chk:∀b a w,(Instr.checkKey b 10000 kt (ek a)).run P w=.ok () w
 bits:∀a,Instr.sameBits 10000 (ek a) (ek a)=true
theorem zmz{κ:Type} [DecidableEq κ]{P:Program}{kt:TypeId}{ek:κ->Value}(heq:∀a b w,(Op.equal kt (ek a) (ek b)).run P w=.ok (decide (a=b)) w)(a:κ)(w:World) :
  ∀(es:List MapEntry) (kvs:List (κ×Value)) (i:Nat),es.map (λe=>(e.key,e.val))=kvs.map (λp=>(ek p.1,p.2))->(Instr.findAsking kt (ek a) es i).run P w=.ok (zb4 a kvs i) w
 | [],[],i,_=>by simp [Instr.findAsking,zb4]
 | [],p::kvs,i,h=>by simp at h
 | e::es,[],i,h=>by simp at h
 | e::es,(k,v)::kvs,i,h=>by
   simp only [kbq,kc8,Prod.mk.injEq] at h;obtain⟨⟨h1,h2⟩,h3⟩:=h;rw [Instr.findAsking,Sem.run_bind,h1,heq,Result.andThen_ok];simp only [zb4];by_cases hk:a=k
   .simp [hk,h2]
   .simp only [hk,decide_false,kbd,if_false];exact zmz heq a w es kvs (i+1) h3
theorem zwj{κ:Type} [DecidableEq κ]{ek:κ->Value}{d:TypeDesc}(heq:∀a b,Instr.sameNow d (ek a) (ek b)=some (decide (a=b)))(a:κ) :
  ∀(es:List MapEntry) (kvs:List (κ×Value)) (i:Nat),es.map (λe=>(e.key,e.val))=kvs.map (λp=>(ek p.1,p.2))->Instr.findNow d (ek a) es i=some (zb4 a kvs i)
 | [],[],i,_=>by simp [Instr.findNow,zb4]
 | [],p::kvs,i,h=>by simp at h
 | e::es,[],i,h=>by simp at h
 | e::es,(k,v)::kvs,i,h=>by
   simp only [kbq,kc8,Prod.mk.injEq] at h;obtain⟨⟨h1,h2⟩,h3⟩:=h;rw [Instr.findNow,h1,heq];simp only [zb4];by_cases hk:a=k
   .simp [hk,h2]
   .simp only [hk,decide_false,if_false];exact zwj heq a es kvs (i+1) h3
variable{C:Cx}{G:zbf}{N:Nat}{s:AS}{d:Nat}{ty:TypeId}{pos:String}{af:Array Edge}{g:Option (Nat×Bool)}
theorem Rel.newmap{w0:zfq}{a:Act}{w:World}{E:Env}{i:Nat}(h:Rel G N w0 s a w E)(hf:zac s (2*i+1)=none):Rel G N w0 ((2*i+1,.mp [])::s) a (w.alloc (.map #[] 0)) (E.bufAt i (.map (some w.heap.size))):=by
 have hb:=Below.alloc (Below.refl w.heap.size w) (kac _) (.map #[] 0);have hg:=h.grow hb;have hid:∀j,zac s (2*j+1)≠none->(E.bufAt i (.map (some w.heap.size))).mem j=E.mem j/\(E.bufAt i (.map (some w.heap.size))).buf j=E.buf j:=λj hj=>⟨rfl,by simp only [Env.bufAt];rw [if_neg (λe:j=i=>hj (by rw [e];exact hf))]⟩
 have h2:=hg.step (E':=E.bufAt i (.map (some w.heap.size))) (λ_ h=>h) (zdy.refl E _) hid (λj b hbl=>⟨rfl,(hg.new j b hbl).2.1⟩) hg.imm (kac _) hg.ext hg.old (hdd:=λD hD=>hD);refine h2.setmem ⟨w.heap.size,#[],0,by simp [Env.bufAt],World.alloc_heap_new w _,rfl⟩ (λb hbl=>?_) λk hk=>by simp [za7.ids] at hk
 simp only [blk,Env.bufAt,if_true,zf1,kap] at hbl;subst hbl;refine⟨z3p.fresh h.ext (kac _),λhi=>absurd (h.imm _ hi) (kdz _),od,λj hj hbl=>?_⟩;refine h.fresh_blk j ?_;rw [<-hbl];cases hl:zac s (2*j+1) with
 | none=>rfl
 | some c=>cases c<;>simp [blk,Env.bufAt,hj]
theorem Rel.writemap{w0:zfq}{a:Act}{w:World}{E:Env}{i r:Nat}{kvs kvs':List (Value×Value)}{es es':Array MapEntry}{cl cl':Nat}(h:Rel G N w0 s a w E)(hl:zac s (2*i+1)=some (.mp kvs))(hr:E.buf i=.map (some r))(hb:w.heap[r]?=some (.map es cl))
  (he:es'.toList.map (λe=>(e.key,e.val))=kvs'):Rel G N w0 ((2*i+1,.mp kvs')::s) a (w.putObj r (.map es' cl')) E:=by
 have hblk:blk E i (zac s (2*i+1))=some r:=by rw [hl];simp [blk,hr,zf1]
 obtain⟨n1,n2,n3⟩:=h.new i _ hblk
 have hother:∀b,b≠r->(w.putObj r (.map es' cl')).heap[b]?=w.heap[b]?:=λb hb=>World.putObj_heap_other hb
 have hk:zdy E w (w.putObj r (.map es' cl')):=λb hb o v hc=>by rw [World.cell?_of_block (w:=w) (a:=⟨b,o,none⟩) (hother b λe=>n2 (e▸hb))];exact hc
 have hd:=(h.kill i).step (E':=E) (w':=w.putObj r (.map es' cl')) (λ_ h=>h) hk (λ_ _=>⟨rfl,rfl⟩) (λj b hbl=>by
  by_cases e:j=i
  .subst e;rw [zaa,if_pos rfl] at hbl;simp [blk] at hbl
  .rw [zaa,if_neg oc] at hbl;exact⟨hother b λe2=>h.dis i j r (Ne.symm e) hblk (by rw [hbl,e2]),(h.new j b hbl).2.1⟩)
  (λb hb=>by rw [World.putObj_size];exact h.imm b hb) oK
  (h.ext.wr ⟨rfl,rfl,rfl,by rw [World.putObj_size];exact kac _,λk hk=>oc⟩ λk hk hn=>hother k λe=>hn (e▸(n1.2 (e▸hk)).1)) h.old (hdd:=λD hD=>(hother D λe=>by rw [e,hb] at hD;cases hD).trans hD)
 refine(hd.setmem (i:=i) (c:=.mp kvs') ⟨r,es',cl',hr,World.putObj_heap_same n3,he⟩ (λb hb=>?_) λk hk2=>by simp [za7.ids] at hk2).congr λk=>(zmf).symm
 simp only [blk,hr,zf1,kap] at hb
 subst hb
 refine⟨n1,n2,by rw [World.putObj_size];exact n3,λj hj=>?_⟩
 rw [zaa,if_neg oc]
 exact h.dis i j _ (Ne.symm hj) hblk
theorem zs2{t:TypeId}(hd:d<N)(hf:zac s (2*d+1)=none):AOp C N ⟨some d,.makeMap t none,ty,pos,af,g⟩ [2*d+1] s [(2*d,.av (.own d)),(2*d+1,.mp [])]:=by
 intro w0 E s' a w hR hr K Q hK;have hrun:(execOp a.eval ⟨some d,.makeMap t none,ty,pos,af,g⟩).run C.P w=.ok (.value (.map (some w.heap.size))) (w.alloc (.map #[] 0)):=by simp [execOp,Instr.makeMap,go_sem]
 unfold Oper.wp;rw [hrun];have hr2:=hr.newmap (i:=d) ((hR _ od).trans hf);refine hK _ _ _ (hr2.put (x:=.own d) hd ?_ λk hk=>?_)
 .have:=Rep.own (E:=E.bufAt d (.map (some w.heap.size))) (w:=w.alloc (.map #[] 0)) d oE;simpa [Env.bufAt] using this
 .simp [AV.ids] at hk;subst hk;rw [zaa,if_pos rfl];simp
section zac
variable{κ:Type} [DecidableEq κ]{ek:κ->Value}{kt et:TypeId}{t:TypeId}{x y z:Operand}{i:Nat}{kvs:List (κ×Value)}{a0:κ}{kA:AV}
abbrev zum(ek:κ->Value)(kvs:List (κ×Value)):List (Value×Value):=kvs.map λp=>(ek p.1,p.2)
theorem z3a{j:Nat}{v:Value}(L:zkn C.P kt ek)(ht:C.P.underlying t=some (.map kt et))(hd:d<N)(hx:ev s x=some (.own i))(hl:zac s (2*i+1)=some (.mp (zum ek kvs)))(hy:ev s y=some kA)(hk:∀(E:Env) (w:World) v,Rep E w kA v->v=ek a0)(hf:zb4 a0 kvs 0=some (j,v)) :
  AOp C N ⟨some d,.lookup t x y true,ty,pos,af,g⟩ (rds x++rds y++[2*i+1]) s [(2*d,.av (.tup [.val v,.val (.bool true)]))] :=
 zau hd λw0 E s' a w hR hr=>by
  have hx':=zda (hr.ev (zat hR (λ_ h=>by simp [h]) hx));have hy':=hk E w _ (hr.ev (zat hR (λ_ h=>by simp [h]) hy));obtain⟨r,es,cl,h1,h2,h3⟩:=hr.mem i _ ((hR _ od).trans hl);refine⟨.tuple #[v,.bool true],?_,.tup [.val v,.val (.bool true)] [v,.bool true] rfl (λk x v hx hv=>?_),by simp [AV.ids,zbb]⟩
  .simp [execOp,hx',h1,hy',Instr.lookup,run_underlying ht,MapKept.run_getObj_map h2,L.chk,L.find a0 es.toList kvs w h3,hf]
  .match k,hx,hv with
   | 0,hx,hv=>cases hx;cases hv;exact .val _
   | 1,hx,hv=>cases hx;cases hv;exact .val _
   | k+2,hx,hv=>simp at hx
theorem z3b{v:Value}(L:zkn C.P kt ek)(ht:C.P.underlying t=some (.map kt et))(hz:∀w,(zeroValue et).run C.P w=.ok v w)(hd:d<N)(hx:ev s x=some (.own i))(hl:zac s (2*i+1)=some (.mp (zum ek kvs)))(hy:ev s y=some kA)(hk:∀(E:Env) (w:World) v,Rep E w kA v->v=ek a0)(hf:zb4 a0 kvs 0=none) :
  AOp C N ⟨some d,.lookup t x y true,ty,pos,af,g⟩ (rds x++rds y++[2*i+1]) s [(2*d,.av (.tup [.val v,.val (.bool false)]))] :=
 zau hd λw0 E s' a w hR hr=>by
  have hx':=zda (hr.ev (zat hR (λ_ h=>by simp [h]) hx));have hy':=hk E w _ (hr.ev (zat hR (λ_ h=>by simp [h]) hy));obtain⟨r,es,cl,h1,h2,h3⟩:=hr.mem i _ ((hR _ od).trans hl);refine⟨.tuple #[v,.bool false],?_,.tup [.val v,.val (.bool false)] [v,.bool false] rfl (λk x v hx hv=>?_),by simp [AV.ids,zbb]⟩
  .simp [execOp,hx',h1,hy',Instr.lookup,run_underlying ht,MapKept.run_getObj_map h2,L.chk,L.find a0 es.toList kvs w h3,hf,hz]
  .match k,hx,hv with
   | 0,hx,hv=>cases hx;cases hv;exact .val _
   | 1,hx,hv=>cases hx;cases hv;exact .val _
   | k+2,hx,hv=>simp at hx
theorem zs3{v z0:Value}(L:zkn C.P kt ek)(ht:C.P.underlying t=some (.map kt et))(hz:∀w,(zeroValue et).run C.P w=.ok z0 w)(hd:d<N)(hx:ev s x=some (.own i))(hl:zac s (2*i+1)=some (.mp (zum ek kvs)))(hy:ev s y=some kA)(hk:∀(E:Env) (w:World) v,Rep E w kA v->v=ek a0)(hf:((zb4 a0 kvs 0).map (·.2)).getD z0=v) :
  AOp C N ⟨some d,.lookup t x y false,ty,pos,af,g⟩ (rds x++rds y++[2*i+1]) s [(2*d,.av (.val v))] :=
 zau hd λw0 E s' a w hR hr=>by
  have hx':=zda (hr.ev (zat hR (λ_ h=>by simp [h]) hx));have hy':=hk E w _ (hr.ev (zat hR (λ_ h=>by simp [h]) hy));obtain⟨r,es,cl,h1,h2,h3⟩:=hr.mem i _ ((hR _ od).trans hl);refine⟨v,?_,.val _,by simp [AV.ids]⟩;subst hf;cases hq:zb4 a0 kvs 0 with
  | none=>simp [execOp,hx',h1,hy',Instr.lookup,run_underlying ht,MapKept.run_getObj_map h2,L.chk,L.find a0 es.toList kvs w h3,hq,hz]
  | some p=>obtain⟨j,u⟩:=p;simp [execOp,hx',h1,hy',Instr.lookup,run_underlying ht,MapKept.run_getObj_map h2,L.chk,L.find a0 es.toList kvs w h3,hq]
theorem zlg{a:κ}:∀{kvs:List (κ×Value)} {i j:Nat} {v:Value},zb4 a kvs i=some (j,v)->∃k,j=i+k/\kvs[k]?=some (a,v)
 | [],_,_,_,h=>by cases h
 | (k,u)::r,i,j,v,h=>by
   simp only [zb4] at h;split at h
   .rename_i e;cases h;exact⟨0,rfl,by simp [e]⟩
   .obtain⟨m,h1,h2⟩:=zlg h;exact⟨m+1,oc,oa h2⟩
theorem zkm{v:Value}(L:zkn C.P kt ek)(ht:C.P.underlying t=some (.map kt et))(hx:ev s x=some (.own i))(hl:zac s (2*i+1)=some (.mp (zum ek kvs)))(hy:ev s y=some kA)(hk:∀(E:Env) (w:World) v,Rep E w kA v->v=ek a0)(hv:ev s z=some (.val v))(hf:zb4 a0 kvs 0=none) :
  AOp C N ⟨none,.mapUpdate t x y z,ty,pos,af,g⟩ (rds x++rds y++rds z++[2*i+1]) s [(2*i+1,.mp (zum ek (kvs++[(a0,v)])))]:=by
 intro w0 E s' a w hR hr K Q hK
 have hx':=zda (hr.ev (zat hR (λ_ h=>by simp [h]) hx))
 have hy':=hk E w _ (hr.ev (zat hR (λ_ h=>by simp [h]) hy))
 have hv':=(hr.ev (zat hR (λ_ h=>by simp [h]) hv)).val_eq
 have hl':=(hR (2*i+1) od).trans hl
 obtain⟨r,es,cl,h1,h2,h3⟩:=hr.mem i _ hl'
 have hrun:(execOp a.eval ⟨none,.mapUpdate t x y z,ty,pos,af,g⟩).run C.P w=.ok .skip (w.putObj r (.map (es.push { key:=ek a0,val:=v,born:=cl }) (cl+1))):=by simp [execOp,hx',h1,hy',hv',Instr.mapUpdate,run_underlying ht,MapKept.run_getObj_map h2,MapKept.run_setObj_map _ h2,L.chk,L.find a0 es.toList kvs w h3,hf,World.putObj]
 unfold Oper.wp
 rw [hrun]
 exact hK _ _ _ (hr.writemap hl' h1 h2 (by simp [h3]))
theorem zs1{j:Nat}{v u:Value}(L:zkn C.P kt ek)(ht:C.P.underlying t=some (.map kt et))(hx:ev s x=some (.own i))(hl:zac s (2*i+1)=some (.mp (zum ek kvs)))(hy:ev s y=some kA)(hk:∀(E:Env) (w:World) v,Rep E w kA v->v=ek a0)(hv:ev s z=some (.val v))(hf:zb4 a0 kvs 0=some (j,u)) :
  AOp C N ⟨none,.mapUpdate t x y z,ty,pos,af,g⟩ (rds x++rds y++rds z++[2*i+1]) s [(2*i+1,.mp (zum ek (kvs.set j (a0,v))))]:=by
 intro w0 E s' a w hR hr K Q hK
 have hx':=zda (hr.ev (zat hR (λ_ h=>by simp [h]) hx))
 have hy':=hk E w _ (hr.ev (zat hR (λ_ h=>by simp [h]) hy))
 have hv':=(hr.ev (zat hR (λ_ h=>by simp [h]) hv)).val_eq
 have hl':=(hR (2*i+1) od).trans hl
 obtain⟨r,es,cl,h1,h2,h3⟩:=hr.mem i _ hl'
 obtain⟨k0,hk0,hat⟩:=zlg hf
 have hk0:j=k0:=oc
 subst hk0
 have hej:∃e,es[j]?=some e/\e.key=ek a0:=by
  have h4:(es.toList.map (λe=>(e.key,e.val)))[j]?=some (ek a0,u):=by rw [h3];simp [hat]
  rw [kaq] at h4;cases he:es.toList[j]? with
  | none=>rw [he] at h4;cases h4
  | some e =>rw [he] at h4;simp only [kcc,kap,Prod.mk.injEq] at h4;exact⟨e,oa he,h4.1⟩
 obtain⟨e,he1,he2⟩:=hej
 have hrun:(execOp a.eval ⟨none,.mapUpdate t x y z,ty,pos,af,g⟩).run C.P w=.ok .skip (w.putObj r (.map (es.modify j λe=>{ e with key:=ek a0,val:=v }) cl)):=by simp [execOp,hx',h1,hy',hv',Instr.mapUpdate,run_underlying ht,MapKept.run_getObj_map h2,MapKept.run_setObj_map _ h2,L.chk,L.find a0 es.toList kvs w h3,hf,World.putObj,he1,he2,Instr.keyThatStays,L.bits]
 unfold Oper.wp
 rw [hrun]
 refine hK _ _ _ (hr.writemap hl' h1 h2 ?_)
 rw [Array.toList_modify]
 refine kc0 λk=>?_
 rw [kaq,List.getElem?_modify]
 have h5:(es.toList.map (λe=>(e.key,e.val)))[k]?=(kvs.map λp=>(ek p.1,p.2))[k]?:=by rw [h3]
 rw [kaq,kaq] at h5
 rw [kaq,kdc]
 by_cases hjk:j=k
 .subst hjk;have hlt:=(kab.1 hat).1;have he1':es.toList[j]?=some e:=oa he1
  simp [hlt,he1']
 .simp only [hjk,if_false];simpa using h5
end zac
end
end Go.Ab
namespace Go.Ab
open Go Go.RowKit Go.Kp
def inA(E:Env)(s:AS)(w:World)(b:Nat):Prop:=E.imm b\/za1 E s b\/w.heap.size<=b
def AFt(C:Cx)(o:Oper)(R:List Nat)(s:AS):Prop :=
 ∀N w0 E s' a w,(∀r∈R,zac s' r=zac s r)->Rel C.G N w0 s' a w E->Ft (inA E s' w) C.P yfj (execOp a.eval o)
def zly(xs ys:List Nat):Bool:=xs.all λx=>ys.any (Nat.beq x)
theorem zkw{xs ys:List Nat}(h:zly xs ys=true){x:Nat}(hx:x∈xs):x∈ys:=by obtain⟨y,h1,h2⟩:=kaz.1 (kar.1 h x hx);rw [kaj h2];exact h1
def z78:Op->Bool
 | .move _|.assign _|.pick _ _ _|.alloc _|.box _ _|.build _ _|.buildSlice _ _ _|.makeMap _ _|.makeFunc _ _ _|.extract _ _|.indexAddr _ _ _=>true
 | _=>false
section
variable{A:Nat->Prop}{P:Program}
theorem zoj{Q:Addr->Prop}(v:Value)(h:∀a:Addr,Q a):Ft A P Q (Instr.sureAddr v):=by
 unfold Instr.sureAddr;split
 .exact h _
 .exact trivial
theorem zug{Q:Value->Prop}(t:TypeId)(v i:Value)(h:∀v,Q v):Ft A P Q (Instr.indexAt t v i):=by
 unfold Instr.indexAt;rw [ft_bind];refine zfg _ λ_=>?_;dsimp only;rw [ft_bind];refine zai _ λ_ _=>?_;split
 .rw [ft_bind];refine zoj _ λ_=>?_;exact fh
 .exact fh
 .exact trivial
theorem zkj{C:Cx}{o:Oper}{R:List Nat}{s:AS}(h:z78 o.op=true):AFt C o R s:=λN w0 E s' a w hR hr=>by
 obtain⟨dst,op,ty,pos,af,g⟩:=o;unfold execOp;cases op<;>simp only [z78,kbd] at h
 case move x=>exact .inl ⟨_,rfl⟩
 case assign x=>exact .inl ⟨_,rfl⟩
 case pick c x y=>dsimp only;rw [ft_bind];exact zgx _ λ_=>.inl ⟨_,rfl⟩
 case alloc T=>exact zjc (z5w _ λ_=>trivial)
 case box T x=>exact zjc (ydt _ _ λ_=>trivial)
 case build t ps=>exact zjc (z5v _ _ λ_=>trivial)
 case buildSlice t n ps=>exact zjc (zp6 _ _ _ λ_=>trivial)
 case makeMap t r=>exact zjc (zyc _ _ λ_=>trivial)
 case makeFunc f p q=>exact zjc trivial
 case extract x i=>exact zjc (zyd _ _ λ_=>trivial)
 case indexAddr t x i=>exact zjc (zug _ _ _ λ_=>trivial)
end
def plV:Value->Bool
 | .bool _|.int _ _|.string _|.func _ _ _|.nilFunc=>true
 | _=>false
def plB:AV->Bool
 | .val v=>plV v
 | .fn _ _ _=>true
 | _=>false
theorem zfw{E:Env}{w:World}{x:AV}{v:Value}(h:Rep E w x v)(hp:plB x=true):za3 v:=by
 cases h with
 | val v=>cases v<;>first|(cases hp;done)|constructor
 | fn _ _ _ _ _ _ _ _ _=>exact .func _ _ _
 | _=>cases hp
def isCl:Option za7->Bool
 | some (.cells _ _)=>true
 | _=>false
def ptB(C:Cx)(s:AS):AV->Bool
 | .ptr i _=>isCl (zac s (2*i+1))
 | .elt _ _ _ _=>true
 | .oelt _ i _ _=>(zea (zac s (2*i+1))).isSome
 | .val (.pointer (some ad))=>(ziw C.G ad.block).isSome
 | _=>false
def ptK:AV->List Nat
 | .ptr i _=>[2*i+1]
 | .oelt _ i _ _=>[2*i+1]
 | .osl _ i _ _=>[2*i+1]
 | .psl i _ _=>[2*i+1]
 | .own i=>[2*i+1]
 | _=>[]
def slB(s:AS):AV->Bool
 | .sl _ _=>true
 | .own i=>(zea (zac s (2*i+1))).isSome
 | .osl _ i _ _=>(zea (zac s (2*i+1))).isSome
 | .psl i _ _=>isCl (zac s (2*i+1))
 | .val (.slice none _ _)=>true
 | _=>false
section
variable{C:Cx}{N:Nat}{w0:zfq}{E:Env}{s s':AS}{a:Act}{w:World}
theorem zl3{i:Nat}(hr:Rel C.G N w0 s a w E)(h:(zea (zac s (2*i+1))).isSome=true){b o n c:Nat}{sp:Option Nat}(hb:E.buf i=.slice (some ⟨b,o,sp⟩) n c):inA E s w b:=by
 unfold zea at h;split at h
 .rename_i wd T rows hl;exact .inr (.inl ⟨i,by rw [hl];simp [blk,hb,Value.ownBlock]⟩)
 .rename_i wd rows hl;have:=hr.mem i _ hl;simp only [zic,hb] at this;cases this with
  | sl _ _ _ _ _ _ h1=>exact .inl h1
 .cases h
theorem yaq{b:Nat}(hr:Rel C.G N w0 s a w E)(h:(ziw C.G b).isSome=true):E.imm b:=by obtain⟨xs,hx⟩:=kc2.1 h;exact(hr.glb _ (ziv hx)).1
theorem zvt{x:AV}{v:Value}(hr:Rel C.G N w0 s a w E)(h:Rep E w x v)(hp:ptB C s x=true):PtA (inA E s w) v:=by
 intro ad e;subst e;generalize hv:Value.pointer (some ad)=v at h;cases h with
 | val u =>subst hv;exact .inl (yaq hr hp)
 | ptr i off =>
   cases hv;simp only [ptB] at hp
   cases hl:zac s (2*i+1) with
   | none=>rw [hl] at hp;cases hp
   | some c =>
     rw [hl] at hp;cases c<;>first|(cases hp;done)|exact .inr (.inl ⟨i,by rw [hl];rfl⟩)
 | elt wd xs b o n off val hb _ _ _=>cases hv;exact .inl hb
 | oelt wd i n off g l c hg=>cases hv;exact zl3 hr hp hg
 | _=>first|cases hp|cases hv
theorem zra{x:AV}{v:Value}(hr:Rel C.G N w0 s a w E)(h:Rep E w x v)(hp:slB s x=true):SlA (inA E s w) v:=by
 intro ad n c e;subst e;generalize hv:Value.slice (some ad) n c=v at h;cases h with
 | val u=>subst hv;cases hp
 | sl wd xs b o c val hb _ _ _=>cases hv;exact .inl hb
 | own i _=>exact zl3 hr hp (b:=ad.block) (o:=ad.off) (n:=n) (c:=c) (sp:=ad.spot) hv.symm
 | osl wd i lo n g l c hg=>cases hv;exact zl3 hr hp hg
 | psl i off n =>
   cases hv;simp only [slB] at hp
   cases hl:zac s (2*i+1) with
   | none=>rw [hl] at hp;cases hp
   | some c =>
     rw [hl] at hp;cases c<;>first|(cases hp;done)|exact .inr (.inl ⟨i,by rw [hl];rfl⟩)
 | _=>cases hv
theorem agr{R:List Nat}{xs:List Nat}(hR:∀r∈R,zac s' r=zac s r)(h:zly xs R=true):∀r∈xs,zac s' r=zac s r:=λr hr=>hR r (zkw h hr)
theorem zl4{x:AV}(h:∀r∈ptK x,zac s' r=zac s r):ptB C s' x=ptB C s x:=by
 cases x with
 | val v=>cases v<;>first|rfl|(rename_i a;cases a<;>rfl)
 | ptr i o=>simp only [ptB];rw [h _ (by simp [ptK])]
 | oelt wd i n o=>simp only [ptB];rw [h _ (by simp [ptK])]
 | _=>rfl
theorem zik{x:AV}(h:∀r∈ptK x,zac s' r=zac s r):slB s' x=slB s x:=by
 cases x with
 | val v=>cases v<;>first|rfl|(rename_i a _ _;cases a<;>rfl)
 | own i=>simp only [slB];rw [h _ (by simp [ptK])]
 | osl wd i lo n=>simp only [slB];rw [h _ (by simp [ptK])]
 | psl i o n=>simp only [slB];rw [h _ (by simp [ptK])]
 | _=>rfl
end
section
variable{C:Cx}{R:List Nat}{s:AS}{d:Option Nat}{ty:TypeId}{pos:String}{af:Array Edge}{g:Option (Nat×Bool)}{x y z:Operand}{t t':TypeId}{p q:AV}
theorem z11{o:BinOp}(hx:ev s x=some p)(hy:ev s y=some q)(hp:plB p=true)(hq:plB q=true)(hs:zly (rds x++rds y) R=true):AFt C ⟨d,.binOp o t x y t',ty,pos,af,g⟩ R s:=λN w0 E s' a w hR hr=>by
 have hR:=agr hR hs;have h1:=zfw (hr.ev ((zas λr h=>hR r oo).trans hx)) hp;have h2:=zfw (hr.ev ((zas λr h=>hR r oo).trans hy)) hq;refine zjc ?_;rw [ft_bind];exact zoo _ _ _ _ _ _ h1 h2 (zwe _ _ _ _ h1 h2 λ_=>trivial)
theorem f_un{o:UnOp}(hx:ev s x=some p)(hp:plB p=true)(hs:zly (rds x) R=true):AFt C ⟨d,.unOp o t x,ty,pos,af,g⟩ R s:=λN w0 E s' a w hR hr=>by have hR:=agr hR hs;exact zjc (z5q _ _ (zfw (hr.ev ((zas λr h=>hR r oo).trans hx)) hp) λ_=>trivial)
theorem zm2(hx:ev s x=some p)(hp:ptB C s p=true)(hs:zly (rds x++ptK p) R=true):AFt C ⟨d,.load t x,ty,pos,af,g⟩ R s:=λN w0 E s' a w hR hr=>by have hR:=agr hR hs;exact zjc (z1m _ _ (zvt hr (hr.ev ((zas λr h=>hR r oo).trans hx)) ((zl4 λr h=>hR r oo).trans hp)) λ_=>trivial)
theorem zp9(hx:ev s x=some p)(hp:ptB C s p=true)(hs:zly (rds x++ptK p) R=true):AFt C ⟨d,.store t x y,ty,pos,af,g⟩ R s:=λN w0 E s' a w hR hr=>by have hR:=agr hR hs;exact ft_u (zyb _ _ _ (zvt hr (hr.ev ((zas λr h=>hR r oo).trans hx)) ((zl4 λr h=>hR r oo).trans hp)) trivial)
theorem zsj{k k' k2:IntKind}{n:Int}(ht:(C.ti t').map (·.sh)=some (.int k'))(ht2:(C.ti t).map (·.sh)=some (.int k))(hx:ev s x=some (.val (.int k2 n)))(hs:zly (rds x) R=true):AFt C ⟨d,.convert t t' x,ty,pos,af,g⟩ R s:=λN w0 E s' a w hR hr=>by
 have hR:=agr hR hs;have e1:=(hr.ev ((zas λr h=>hR r oo).trans hx)).val_eq;cases h1:C.ti t' with
 | none=>rw [h1] at ht;cases ht
 | some i =>
   cases h2:C.ti t with
   | none=>rw [h2] at ht2;cases ht2
   | some j =>rw [h1] at ht;rw [h2] at ht2;exact zjc (zye _ _ _ ⟨_,_,e1⟩ ⟨_,Cx.under_int h2 (oa ht2)⟩ ⟨_,Cx.under_int h1 (oa ht)⟩ λ_=>trivial)
theorem zqa{f o:Nat}(hf:C.foff t f=some o):AFt C ⟨d,.fieldAddr t x f,ty,pos,af,g⟩ R s:=λN w0 E s' a w hR hr=>by
 refine zjc ?_;unfold Cx.foff at hf;split at hf
 .rename_i fs ht;obtain⟨gs,hu,hg⟩:=Cx.under_st ht rfl;split at hf
  .rename_i o' z hfz;cases hz:Nat.beq z 0 with
   | true=>rw [hz] at hf;cases hf
   | false =>
     rw [<-hg,kaq] at hfz;cases hgf:gs.toList[f]? with
     | none=>rw [hgf] at hfz;cases hfz
     | some fd =>
       rw [hgf] at hfz;simp only [kcc,kap,Prod.mk.injEq] at hfz;obtain⟨_,h2⟩:=hfz;have hgf':gs[f]?=some fd:=oa hgf
       unfold Instr.fieldAt;rw [ft_bind];refine zai _ λdd hd=>?_;rw [hu] at hd;cases hd
       simp only [hgf'];rw [ft_bind];refine zoj _ λad=>?_;rw [ft_bind];unfold fieldPlace;rw [ft_bind];unfold sizeOf;rw [ft_bind];refine zcd _ λi hi=>?_;rw [zce];rw [hi] at h2;have hz0:i.size≠0:=λe=>by simp [e] at h2;subst h2;cases hz
       simp only [hz0,if_false];trivial
  .cases hf
 .cases hf
end
section
variable{C:Cx}{N:Nat}{w0:zfq}{E:Env}{s s':AS}{a:Act}{w:World}
def lnB(s:AS):AV->Bool
 | .sl _ _=>true
 | .own i=>(zea (zac s (2*i+1))).isSome
 | .val (.slice none _ _)=>true
 | .val (.string _)=>true
 | _=>false
theorem ln_of{x:AV}{v:Value}(hr:Rel C.G N w0 s a w E)(h:Rep E w x v)(hp:lnB s x=true):(∀r,v≠.map r)/\∀c,v≠.chan c:=by
 cases h with
 | val=>cases v<;>first|(cases hp;done)|exact⟨λ_ e=>oW,λ_ e=>oW⟩
 | nil wd=>exact⟨λ_ e=>oW,λ_ e=>oW⟩
 | sl _ _ _ _ _ _ _ _ _ _=>exact⟨λ_ e=>oW,λ_ e=>oW⟩
 | own i _ =>
   obtain⟨q,hq⟩:=kc2.1 hp;rcases zjk (wd:=q.1) (rows:=q.2) (λk hk=>hr.mem i k hk) hq with ⟨e,_⟩|⟨_,_,_,e,_⟩<;>rw [e]<;>exact⟨λ_ e=>oW,λ_ e=>oW⟩
 | _=>cases hp
theorem z0x{x:AV}(h:∀r∈ptK x,zac s' r=zac s r):lnB s' x=lnB s x:=by
 cases x with
 | val v=>cases v<;>first|rfl|(rename_i a _ _;cases a<;>rfl)
 | own i=>simp only [lnB];rw [h _ (by simp [ptK])]
 | _=>rfl
def mpB(s:AS):AV->Bool
 | .own i=>match zac s (2*i+1) with
   | some (.mp _)=>true
   | _=>false
 | _=>false
theorem z7w{x:AV}{v:Value}(_hr:Rel C.G N w0 s a w E)(h:Rep E w x v)(hp:mpB s x=true):MpA (inA E s w) v:=by
 intro r e;subst e;cases x with
 | own i =>
   simp only [mpB] at hp;split at hp
   .rename_i kvs hl;have:=zda h;exact .inr (.inl ⟨i,by rw [hl];simp [blk,<-this,zf1]⟩)
   .cases hp
 | _=>cases hp
theorem zr0{x:AV}(h:∀r∈ptK x,zac s' r=zac s r):mpB s' x=mpB s x:=by
 cases x with
 | own i=>simp only [mpB];rw [h _ (by simp [ptK])]
 | _=>rfl
end
section
variable{C:Cx}{R:List Nat}{s:AS}{d:Option Nat}{ty:TypeId}{pos:String}{af:Array Edge}{g:Option (Nat×Bool)}{x y z:Operand}{t t':TypeId}{p q:AV}
theorem f_len{ts:Array TypeId}(hx:ev s x=some p)(hp:lnB s p=true)(hs:zly (rds x++ptK p) R=true):AFt C ⟨d,.call { callee:=.builtin .len,args:=#[x],argTypes:=ts },ty,pos,af,g⟩ R s:=λN w0 E s' a w hR hr=>by
 have hR:=agr hR hs;obtain⟨h1,h2⟩:=ln_of hr (hr.ev ((zas λr h=>hR r oo).trans hx)) ((z0x λr h=>hR r oo).trans hp);have:=z77 (A:=inA E s' w) (P:=C.P) (Q:=λ_=>True) ts ty (a.eval x) (λr e=>absurd e (h1 _)) h2 λ_=>trivial;simpa [execOp,resolve,invoke,builtin] using zjc this
theorem zlh{ts:Array TypeId}{e:TypeId}{wd:Nat}(ht:C.eap t=some (e,wd))(h2:ts=#[t,t])(hx:ev s x=some p)(hy:ev s y=some q)(hp:slB s p=true)(hq:slB s q=true)(hs:zly (rds x++rds y++ptK p++ptK q) R=true) :
  AFt C ⟨d,.call { callee:=.builtin .append,args:=#[x,y],argTypes:=ts },ty,pos,af,g⟩ R s:=λN w0 E s' a w hR hr=>by
 have hR:=agr hR hs
 have h3:=zra hr (hr.ev ((zas λr h=>hR r oo).trans hx)) ((zik λr h=>hR r oo).trans hp)
 have h4:=zra hr (hr.ev ((zas λr h=>hR r oo).trans hy)) ((zik λr h=>hR r oo).trans hq)
 have:=z1q (A:=inA E s' w) (P:=C.P) (Q:=λ_=>True) ts ty (a.eval x) (a.eval y) h3 h4 (λt1 k h hu=>by
  rw [h2] at h;have h5:t=t1:=oa h
  rw [<-h5,(Cx.eap_of ht).1] at hu;cases hu) λ_=>trivial
 simpa [execOp,resolve,invoke,builtin] using zjc this
theorem zm3{ts:Array TypeId}(hx:ev s x=some p)(hy:ev s y=some q)(hp:slB s p=true)(hq:slB s q=true)(hs:zly (rds x++rds y++ptK p++ptK q) R=true) :
  AFt C ⟨d,.call { callee:=.builtin .copy,args:=#[x,y],argTypes:=ts },ty,pos,af,g⟩ R s:=λN w0 E s' a w hR hr=>by
 have hR:=agr hR hs
 have h3:=zra hr (hr.ev ((zas λr h=>hR r oo).trans hx)) ((zik λr h=>hR r oo).trans hp)
 have h4:=zra hr (hr.ev ((zas λr h=>hR r oo).trans hy)) ((zik λr h=>hR r oo).trans hq)
 have:=ya0 (A:=inA E s' w) (P:=C.P) (Q:=λ_=>True) ts ty (a.eval x) (a.eval y) h3 h4 λ_=>trivial
 simpa [execOp,resolve,invoke,builtin] using zjc this
theorem f_max{ts:Array TypeId}(hx:ev s x=some p)(hy:ev s y=some q)(hp:plB p=true)(hq:plB q=true)(hs:zly (rds x++rds y) R=true):AFt C ⟨d,.call { callee:=.builtin .max,args:=#[x,y],argTypes:=ts },ty,pos,af,g⟩ R s:=λN w0 E s' a w hR hr=>by
 have hR:=agr hR hs;have h1:=zfw (hr.ev ((zas λr h=>hR r oo).trans hx)) hp;have h2:=zfw (hr.ev ((zas λr h=>hR r oo).trans hy)) hq;have:=ft_mono (yds (A:=inA E s' w) (P:=C.P) ts ty #[a.eval x,a.eval y] (by intro v hv;simp at hv;rcases hv with rfl|rfl<;>assumption)) λ(_:Value) _=>trivial;simpa [execOp,resolve,invoke,builtin] using zjc this
theorem f_min{ts:Array TypeId}(hx:ev s x=some p)(hy:ev s y=some q)(hp:plB p=true)(hq:plB q=true)(hs:zly (rds x++rds y) R=true):AFt C ⟨d,.call { callee:=.builtin .min,args:=#[x,y],argTypes:=ts },ty,pos,af,g⟩ R s:=λN w0 E s' a w hR hr=>by
 have hR:=agr hR hs;have h1:=zfw (hr.ev ((zas λr h=>hR r oo).trans hx)) hp;have h2:=zfw (hr.ev ((zas λr h=>hR r oo).trans hy)) hq;have:=ft_mono (ydr (A:=inA E s' w) (P:=C.P) ts ty #[a.eval x,a.eval y] (by intro v hv;simp at hv;rcases hv with rfl|rfl<;>assumption)) λ(_:Value) _=>trivial;simpa [execOp,resolve,invoke,builtin] using zjc this
def yfi(s:AS)(y:Operand):Prop:=∃q,ev s y=some q/\∀(E:Env) (w:World) v,Rep E w q v->za3 v
theorem zer{ok:Bool}(hx:ev s x=some p)(hp:mpB s p=true)(hy:yfi s y)(hs:zly (rds x++rds y++ptK p) R=true):AFt C ⟨d,.lookup t x y ok,ty,pos,af,g⟩ R s:=λN w0 E s' a w hR hr=>by
 have hR:=agr hR hs;obtain⟨q,h1,h2⟩:=hy;exact zjc (z1l _ _ _ _ (z7w hr (hr.ev ((zas λr h=>hR r oo).trans hx)) ((zr0 λr h=>hR r oo).trans hp)) (h2 _ _ _ (hr.ev ((zas λr h=>hR r oo).trans h1))) λ_=>trivial)
theorem zdh(hx:ev s x=some p)(hp:mpB s p=true)(hy:yfi s y)(hs:zly (rds x++rds y++ptK p) R=true):AFt C ⟨d,.mapUpdate t x y z,ty,pos,af,g⟩ R s:=λN w0 E s' a w hR hr=>by
 have hR:=agr hR hs;obtain⟨q,h1,h2⟩:=hy;exact ft_u (zsa _ _ _ _ (z7w hr (hr.ev ((zas λr h=>hR r oo).trans hx)) ((zr0 λr h=>hR r oo).trans hp)) (h2 _ _ _ (hr.ev ((zas λr h=>hR r oo).trans h1))) trivial)
end
end Go.Ab
namespace Go.Kp
open Go Go.Conc
section
section
variable{P:Program}{main:Bool}{b:Frame}{a:Act}{k:List Item}{cs:List Frame}{w:World}
theorem yar:stepG P main (G (b.atR a (.code .skip::k)) cs) w=.go (G (b.atR a k) cs) w:=by simp [G,stepG,stepG.exec,Frame.atR]
theorem z5o{l:Nat}:stepG P main (G (b.atR a (.code (.label l)::k)) cs) w=.go (G (b.atR a k) cs) w:=by simp [G,stepG,stepG.exec,Frame.atR]
theorem zya{id:Nat}:stepG P main (G (b.atR a (.inBlock id::k)) cs) w=.go (G (b.atR a k) cs) w:=by simp [G,stepG,stepG.exec,Frame.atR]
theorem ydp{x y:Code}:stepG P main (G (b.atR a (.code (.seq x y)::k)) cs) w=.go (G (b.atR a (.code x::.code y::k)) cs) w:=by simp [G,stepG,stepG.exec,Frame.atR]
theorem yaw{c:Operand}{x y:Code}{t:Bool}(h:a.eval c=.bool t):stepG P main (G (b.atR a (.code (.cond c x y)::k)) cs) w=.go (G (b.atR a (.code (if t then x else y)::k)) cs) w:=by
 have h':(b.atR a (.code (.cond c x y)::k)).eval c=.bool t:=by rw [Frame.eval_atR];exact h
 simp only [Frame.atR] at h';simp [G,stepG,stepG.exec,Frame.atR,h']
theorem z5p{id:Nat}{c:Code}:stepG P main (G (b.atR a (.code (.block id c)::k)) cs) w=.go (G (b.atR a (.code c::.inBlock id::k)) cs) w:=by simp [G,stepG,stepG.exec,Frame.atR]
theorem yat{c:Code}:stepG P main (G (b.atR a (.code (.loop c)::k)) cs) w=.go (G (b.atR a (.code c::.inLoop c::k)) cs) w:=by simp [G,stepG,stepG.exec,Frame.atR]
theorem z1k{c:Code}:stepG P main (G (b.atR a (.inLoop c::k)) cs) w=.go (G (b.atR a (.code c::.inLoop c::k)) cs) w:=by simp [G,stepG,stepG.exec,Frame.atR]
theorem yau{id:Nat}{k':List Item}(h:exitTo id k=some k'):stepG P main (G (b.atR a (.code (.exit id)::k)) cs) w=.go (G (b.atR a k') cs) w:=by simp [G,stepG,stepG.exec,Frame.atR,h]
theorem z1j{id:Nat}{ops:Array Oper}:stepG P main (G (b.atR a (.code (.region id ops false)::k)) cs) w=.go (G (b.atR a (.inRegion ops (List.range ops.size)::k)) cs) w:=by simp [G,stepG,stepG.exec,Frame.atR]
theorem zp1{ops:Array Oper}:stepG P main (G (b.atR a (.inRegion ops []::k)) cs) w=.go (G (b.atR a k) cs) w:=by simp [G,stepG,stepG.exec,Frame.atR]
theorem yav{id:Nat}{ops:Array Oper}:stepG P main (G (b.atR a (.code (.region id ops true)::k)) cs) w =
  .go (G (b.atR a (.inRegion ops (Region.schedule (P.follows .mixedOrders) ops (w.tape w.drawn (.order b.fn id)))::k)) cs) { w with drawn:=w.drawn+1 }:=by
 simp [G,stepG,stepG.exec,Frame.atR,choose,Sem.run,Question.forced,Question.cut]
theorem zud{ops:Array Oper}{i:Nat}{rest:List Nat}{o:Oper}(ho:ops[i]?=some o)(hw:Region.wanted o (yielded ops a.tmps)=false) :
  stepG P main (G (b.atR a (.inRegion ops (i::rest)::k)) cs) w=.go (G (b.atR (a.put o.dst undef) (.inRegion ops rest::k)) cs) w #[]:=by
 have hfin:(b.atR a (.inRegion ops (i::rest)::k)).finish undef=b.atR (a.put o.dst undef) (.inRegion ops rest::k):=by rw [Frame.finish_atR,ho];rfl
 rw [<-hfin]
 simp [G,stepG,stepG.exec,Frame.atR,ho,hw]
theorem zp2{ops:Array Oper}{i:Nat}{rest:List Nat}{o:Oper}(ho:ops[i]?=some o)(hw:Region.wanted o (yielded ops a.tmps)=true)(hn:∀c,o.op≠.defer c) :
  stepG P main (G (b.atR a (.inRegion ops (i::rest)::k)) cs) w=stepG.apply P true (b.atR a (.inRegion ops (i::rest)::k)) cs none (execOp a.eval o) w:=by
 have he:(b.atR a (.inRegion ops (i::rest)::k)).eval=a.eval:=Frame.eval_atR _ _ _
 have h1:stepG P main (G (b.atR a (.inRegion ops (i::rest)::k)) cs) w=stepG.oper P true (b.atR a (.inRegion ops (i::rest)::k)) cs none w:=by simp [G,stepG,stepG.exec,Frame.atR,ho,hw]
 rw [h1]
 unfold stepG.oper
 have hop:(b.atR a (.inRegion ops (i::rest)::k)).oper?=some o:=ho
 rw [hop]
 dsimp only
 split
 .rename_i hc;exact absurd hc (hn _)
 .rw [he]
theorem z5m{ops:Array Oper}{i:Nat}{rest:List Nat}{o:Oper}{v:Value}{w':World}(ho:ops[i]?=some o)(hw:Region.wanted o (yielded ops a.tmps)=true)(hn:∀c,o.op≠.defer c)
  (hk:b.kind≠.early) (hr:(execOp a.eval o).run P w=.ok (.value v) w'):stepG P main (G (b.atR a (.inRegion ops (i::rest)::k)) cs) w=.go (G (b.atR (a.put o.dst v) (.inRegion ops rest::k)) cs) w' (listed P b.fn a o w):=by
 have hfin:(b.atR a (.inRegion ops (i::rest)::k)).finish v=b.atR (a.put o.dst v) (.inRegion ops rest::k):=by rw [Frame.finish_atR,ho];rfl
 have hk':(b.kind == CallKind.early)=false:=oa hk
 rw [zp2 ho hw hn,<-hfin]
 simp [stepG.apply,hr,G,Frame.atR,hk',GStep.after,listed]
theorem yas{ops:Array Oper}{i:Nat}{rest:List Nat}{o:Oper}{w':World}(ho:ops[i]?=some o)(hw:Region.wanted o (yielded ops a.tmps)=true)(hn:∀c,o.op≠.defer c)
  (hk:b.kind≠.early) (hr:(execOp a.eval o).run P w=.ok .skip w'):stepG P main (G (b.atR a (.inRegion ops (i::rest)::k)) cs) w=.go (G (b.atR (a.put o.dst undef) (.inRegion ops rest::k)) cs) w' (listed P b.fn a o w):=by
 have hfin:(b.atR a (.inRegion ops (i::rest)::k)).finish undef=b.atR (a.put o.dst undef) (.inRegion ops rest::k):=by rw [Frame.finish_atR,ho];rfl
 have hk':(b.kind == CallKind.early)=false:=oa hk
 rw [zp2 ho hw hn,<-hfin]
 simp [stepG.apply,hr,G,Frame.atR,hk',GStep.after,listed]
theorem gR_enter{ops:Array Oper}{i:Nat}{rest:List Nat}{o:Oper}{f:FuncId}{args:Array Value}{w':World}(ho:ops[i]?=some o)(hw:Region.wanted o (yielded ops a.tmps)=true)(hn:∀c,o.op≠.defer c)
  (hk:b.kind≠.early) (hr:(execOp a.eval o).run P w=.ok (.enter f args) w') :
  stepG P main (G (b.atR a (.inRegion ops (i::rest)::k)) cs) w=.go (G (Frame.enter P f args .normal) (b.atR a (.inRegion ops (i::rest)::k)::cs)) w' (listed P b.fn a o w):=by
 have hk':(b.kind == CallKind.early)=false:=oa hk
 rw [zp2 ho hw hn]
 simp [stepG.apply,hr,G,Frame.atR,hk',GStep.after,listed]
theorem gR_round{ops:Array Oper}{i:Nat}{rest:List Nat}{o:Oper}{l:Nat}{f:FuncId}{tm:Array Value}{c d:Code}{w':World}(ho:ops[i]?=some o)(hw:Region.wanted o (yielded ops a.tmps)=true)(hn:∀c,o.op≠.defer c)
  (hk:b.kind≠.early) (hr:(execOp a.eval o).run P w=.ok (.round l f tm c d) w') :
  stepG P main (G (b.atR a (.inRegion ops (i::rest)::k)) cs) w=.go (G (Frame.round l f tm c d .normal) (b.atR a (.inRegion ops (i::rest)::k)::cs)) w' (listed P b.fn a o w):=by
 have hk':(b.kind == CallKind.early)=false:=oa hk
 rw [zp2 ho hw hn]
 simp [stepG.apply,hr,G,Frame.atR,hk',GStep.after,listed]
end
variable{D:Jdg}
def AfterR(D:Jdg)(b:Frame)(k:List Item)(cs:List Frame):Exit->D.St->Act->World->Prop
 | .normal,s,a,w=>D.J s (G (b.atR a k) cs) w
 | .exit id,s,a,w=>∃k',exitTo id k=some k'/\D.J s (G (b.atR a k') cs) w
 | .ret,s,a,w=>b.roundOf=none/\∀todo,D.J s (G { b.atR a todo with mode:=.returning } cs) w
 | _,_,_,_=>False
theorem AfterR.push{b:Frame}{x:Item}{k:List Item}{cs:List Frame}{e:Exit}{s:D.St}{a:Act}{w:World}(hx:x.plain=true)(he:e≠.normal)(h:AfterR D b k cs e s a w):AfterR D b (x::k) cs e s a w:=by
 cases e with
 | normal=>exact absurd rfl he
 | exit id=>obtain⟨k',hk,hg⟩:=h;exact⟨k',by cases x<;>first|exact hk|(simp [Item.plain] at hx),hg⟩
 | ret=>exact h
 | goto l=>exact h
 | panic ch=>exact h
 | outgrown=>exact h
def WpR(D:Jdg)(r:Option Nat)(fn:FuncId)(c:Code)(Q:Exit->D.St->Act->World->Prop)(s:D.St)(a:Act)(w:World):Prop :=
 ∀(b:Frame) (k:List Item) (cs:List Frame),b.fn=fn->b.kind≠.early->b.roundOf=r->(∀e s' a' w',Q e s' a' w'->AfterR D b k cs e s' a' w')->D.J s (G (b.atR a (.code c::k)) cs) w
def OpsR(D:Jdg)(r:Option Nat)(fn:FuncId)(ops:Array Oper)(todo:List Nat)(Q:Exit->D.St->Act->World->Prop)(s:D.St)(a:Act)(w:World):Prop :=
 ∀(b:Frame) (k:List Item) (cs:List Frame),b.fn=fn->b.kind≠.early->b.roundOf=r->(∀e s' a' w',Q e s' a' w'->AfterR D b k cs e s' a' w')->D.J s (G (b.atR a (.inRegion ops todo::k)) cs) w
section
variable{r:Option Nat}{fn:FuncId}{Q:Exit->D.St->Act->World->Prop}{s:D.St}{a:Act}{w:World}
theorem wpR_skip(h:Q .normal s a w):WpR D r fn .skip Q s a w:=λ_ _ _ _ _ _ hc=>Jdg.ctl rfl rfl rfl (λ_=>yar) (hc _ _ _ _ h)
theorem wpR_label{l:Nat}(h:Q .normal s a w):WpR D r fn (.label l) Q s a w:=λ_ _ _ _ _ _ hc=>Jdg.ctl rfl rfl rfl (λ_=>z5o) (hc _ _ _ _ h)
theorem wpR_ret(h:Q .ret s a w):WpR D r fn .ret Q s a w:=λb k cs _ _ _ hc=>by obtain⟨hn,hg⟩:=hc _ _ _ _ h;refine Jdg.ctl rfl rfl rfl (λw=>?_) (hg (.code .ret::k));rw [Frame.atR_of_none hn];exact stepG_ret'
theorem wpR_exit{id:Nat}(h:Q (.exit id) s a w):WpR D r fn (.exit id) Q s a w:=λ_ _ _ _ _ _ hc=>by obtain⟨k',hk',hg⟩:=hc _ _ _ _ h;exact Jdg.ctl rfl rfl rfl (λ_=>yau hk') hg
theorem wpR_seq{x y:Code}(h:WpR D r fn x (zjf (λs a w=>WpR D r fn y Q s a w) Q) s a w):WpR D r fn (.seq x y) Q s a w:=by
 intro b k cs hb hk hr hc;refine Jdg.ctl rfl rfl rfl (λ_=>ydp) (h b (.code y::k) cs hb hk hr λe s' a' w' q=>?_);cases e with
 | normal=>exact q b k cs hb hk hr hc
 | exit id=>exact(hc _ _ _ _ q).push rfl od
 | ret=>exact(hc _ _ _ _ q).push (x:=.code y) rfl od
 | goto l=>exact hc _ _ _ _ q
 | panic ch=>exact hc _ _ _ _ q
 | outgrown=>exact hc _ _ _ _ q
theorem wpR_cond{c:Operand}{x y:Code}{t:Bool}(hc:a.eval c=.bool t)(h:WpR D r fn (if t then x else y) Q s a w):WpR D r fn (.cond c x y) Q s a w :=
 λb k cs hb hk hr hq=>Jdg.ctl rfl rfl rfl (λ_=>yaw hc) (h b k cs hb hk hr hq)
theorem wpR_block{id:Nat}{c:Code}(h:WpR D r fn c (blockJ id Q) s a w):WpR D r fn (.block id c) Q s a w:=by
 intro b k cs hb hk hr hc;refine Jdg.ctl rfl rfl rfl (λ_=>z5p) (h b (.inBlock id::k) cs hb hk hr λe s' a' w' q=>?_);cases e with
 | normal=>exact Jdg.ctl rfl rfl rfl (λ_=>zya) (hc _ _ _ _ q)
 | exit id' =>
   by_cases hid:id'=id
   .simp only [blockJ,hid,if_true] at q;exact⟨k,by simp [exitTo,hid],hc _ _ _ _ q⟩
   .simp only [blockJ,hid,if_false] at q;obtain⟨k',hk',hg⟩:=hc _ _ _ _ q;have:(id == id')=false:=by simp;exactλh=>hid h.symm
    exact⟨k',by simp [exitTo,this,hk'],hg⟩
 | ret=>exact hc _ _ _ _ q
 | goto l=>exact hc _ _ _ _ q
 | panic ch=>exact hc _ _ _ _ q
 | outgrown=>exact hc _ _ _ _ q
theorem wpR_loop{c:Code}{α:Type}{R:α->α->Prop}(wf:WellFounded R)(I:α->D.St->Act->World->Prop)(x:α)(h0:I x s a w)
  (round:∀x s a w,I x s a w->WpR D r fn c (zjf (λs' a' w'=>∃y,R y x/\I y s' a' w') Q) s a w):WpR D r fn (.loop c) Q s a w:=by
 intro b k cs hb hk hr hc
 have key:∀x s a w,I x s a w->D.J s (G (b.atR a (.code c::.inLoop c::k)) cs) w:=by
  intro x;induction x using wf.induction with
  | _ x ih =>
    intro s a w hI;refine round x s a w hI b (.inLoop c::k) cs hb hk hr λe s' a' w' q=>?_;cases e with
    | normal=>obtain⟨y,hy,hI'⟩:=q;exact Jdg.ctl rfl rfl rfl (λ_=>z1k) (ih y hy _ _ _ hI')
    | exit id=>exact(hc _ _ _ _ q).push rfl od
    | ret=>exact(hc _ _ _ _ q).push (x:=.inLoop c) rfl od
    | goto l=>exact hc _ _ _ _ q
    | panic ch=>exact hc _ _ _ _ q
    | outgrown=>exact hc _ _ _ _ q
 exact Jdg.ctl rfl rfl rfl (λ_=>yat) (key x s a w h0)
theorem wpR_region{id:Nat}{ops:Array Oper}(h:OpsR D r fn ops (List.range ops.size) Q s a w):WpR D r fn (.region id ops false) Q s a w :=
 λb k cs hb hk hr hc=>Jdg.ctl rfl rfl rfl (λ_=>z1j) (h b k cs hb hk hr hc)
theorem wpR_draw{id:Nat}{ops:Array Oper}(hd:∀s (w:World),D.Ok s w { w with drawn:=w.drawn+1 } #[] s)(h:∀w₁,D.See s w w₁->∀t,OpsR D r fn ops (Region.schedule (D.P.follows .mixedOrders) ops t) Q s a { w₁ with drawn:=w₁.drawn+1 }):WpR D r fn (.region id ops true) Q s a w :=
 λb k cs hb hk hr hc=>D.step rfl rfl λw₁ h₁=>⟨_,_,_,s,yav,rfl,hd s w₁,h w₁ h₁ _ b k cs hb hk hr hc⟩
theorem opsR_nil{ops:Array Oper}(h:Q .normal s a w):OpsR D r fn ops [] Q s a w:=λ_ _ _ _ _ _ hc=>Jdg.ctl rfl rfl rfl (λ_=>zp1) (hc _ _ _ _ h)
theorem opsR_cons{ops:Array Oper}{i:Nat}{rest:List Nat}{o:Oper}(ho:ops[i]?=some o)(hw:Region.wanted o (yielded ops a.tmps)=true)(hn:∀c,o.op≠.defer c)
  (h:∀w₁,D.See s w w₁->uponK o a (λa' w'=>∃s',D.Ok s w₁ w' (listed D.P fn a o w₁) s'/\OpsR D r fn ops rest Q s' a' w') ((execOp a.eval o).run D.P w₁)):OpsR D r fn ops (i::rest) Q s a w:=by
 intro b k cs hb hk hr hc
 refine D.step rfl rfl λw₁ h₁=>?_
 have:=h w₁ h₁
 generalize hrn:(execOp a.eval o).run D.P w₁=x at this
 match x,this with
 | .ok (.value v) w',⟨s',h1,h2⟩=>exact⟨_,_,_,s',z5m ho hw hn hk hrn,rfl,hb▸h1,h2 b k cs hb hk hr hc⟩
 | .ok .skip w',⟨s',h1,h2⟩=>exact⟨_,_,_,s',yas ho hw hn hk hrn,rfl,hb▸h1,h2 b k cs hb hk hr hc⟩
theorem opsR_unwanted{ops:Array Oper}{i:Nat}{rest:List Nat}{o:Oper}(ho:ops[i]?=some o)(hw:Region.wanted o (yielded ops a.tmps)=false)
  (h:OpsR D r fn ops rest Q s (a.put o.dst undef) w):OpsR D r fn ops (i::rest) Q s a w :=
 λb k cs hb hk hr hc=>Jdg.ctl rfl rfl rfl (λ_=>zud ho hw) (h b k cs hb hk hr hc)
theorem z82{c:Code}(h:WpR D none fn c Q s a w):WpJ D fn c Q s a w:=λb k cs hb hk hc=>by
 have:=h { b with roundOf:=none } k cs hb hk rfl λe s' a' w' q=>by have:=hc e s' a' w' q;cases e<;>first|exact this|exact⟨rfl,this⟩
 exact this
theorem z83{c:Code}(h:WpJ D fn c Q s a w):WpR D none fn c Q s a w:=λb k cs hb hk hr hc=>by
 rw [Frame.atR_of_none hr];refine h b k cs hb hk λe s' a' w' q=>?_;have:=hc e s' a' w' q;cases e with
 | normal=>simp only [AfterR,Frame.atR_of_none hr] at this;exact this
 | exit id=>simp only [AfterR,Frame.atR_of_none hr] at this;exact this
 | ret=>simp only [AfterR,Frame.atR_of_none hr] at this;exact this.2
 | goto l=>exact this
 | panic ch=>exact this
 | outgrown=>exact this
end
end
end Go.Kp
namespace Go.Ab
open Go Go.RowKit Go.Kp Go.Conc
open Go.ConcM (OsLater)
section
theorem zjx{A Gb:Nat->Prop}{B:Nat}{e:Event}(hG:∀b,A b->¬Gb b)(h:EvA A B e):EvL (zja Gb) B e:=by
 obtain⟨loc,wr,sy⟩:=e;cases loc with
 | cell a =>
   refine⟨λx hx hs=>?_,od,od,?_⟩
   .simp only [ofEvent_cell0,MemAct.touch?,kap] at hx;subst hx;exact absurd hs (hG _ h.1)
   .rw [ofEvent_cell0];exact h.2
 | obj r =>
   have h2:r<B:=h.2;refine⟨λx hx hs=>?_,od,od,?_⟩
   .cases wr<;>cases sy<;>simp only [MemAct.ofEvent,MemAct.touch?,kap,reduceCtorEq] at hx<;>(subst hx;exact absurd hs (hG _ h.1))
   .cases wr<;>cases sy<;>exact h2
 | mark m =>
   have hm:zs5 m:=h;cases m<;>first|exact hm.elim|exact⟨λx hx hs=>by simp [MemAct.ofEvent,MemAct.touch?] at hx,od,od,trivial⟩
 | _=>exact h.elim
def reb(n:Nat)(w:World)(E:Env)(s:AS):zfq:={ toWorld:=w,base:=n,hold:=λk=>za1 E s k\/k∈E.dfs,old:=λk=>E.imm k\/za1 E s k }
theorem Rel.at{G:zbf}{N:Nat}{w0:zfq}{s:AS}{a:Act}{w w':World}{E E':Env}(h:Rel G N w0 s a w E)(hz:w.heap.size<=w'.heap.size)(hs:∀b,za1 E s b\/E.imm b\/b∈E.dfs->w'.heap[b]?=w.heap[b]?)
  (hm:E'.mem=E.mem) (hb:E'.buf=E.buf) (hd:E'.dfs=E.dfs) (hi:∀b,E.imm b->E'.imm b) (hn:∀b,E'.imm b->E.imm b\/(w.heap.size<=b/\b<w'.heap.size)):Rel G N (reb w0.base w' E' s) s a w' E':=by
 have hblk:∀i c,blk E' i c=blk E i c:=λi c=>by cases c with
  | none=>rfl
  | some c=>cases c<;>simp [blk,hm,hb]
 have hheld:∀k,za1 E' s k↔za1 E s k:=λk=>by simp only [za1,hblk]
 refine h.move rfl (by rw [hd];exact h.df) ⟨hd▸h.dfo.1,λD hD=>?_⟩ rfl hi (λb hb o v hc=>by rw [World.cell?_of_block (w:=w) (a:=⟨b,o,none⟩) (hs b (.inr (.inl hb)))];exact hc) (λi _=>⟨by rw [hm],by rw [hb]⟩) (λi b hbl=>?_) (λb hbi=>?_) hz ⟨Below.refl _ _,λ_ _ _=>rfl,?_⟩ λb hbi hlt=>.inl hbi
 .have hD':D∈E.dfs:=hd▸hD;exact⟨λ_=>.inr hD,(hs D (.inr (.inr hD'))).trans (h.dfo.2 D hD').2⟩
 .have hh:za1 E s b:=⟨i,hbl⟩;refine⟨hs b (.inl hh),λhi2=>?_,(h.new i b hbl).1.1,λ_=>⟨.inl ((hheld b).2 hh),.inr ((hheld b).2 hh)⟩⟩;rcases hn b hi2 with h1|h1
  .exact(h.new i b hbl).2.1 h1
  .have:=(h.new i b hbl).2.2;omega
 .rcases hn b hbi with h1|h1
  .exact kaf (h.imm b h1) hz
  .exact h1.2
 .exact kak h.ext.base hz
structure FB where
 w:World
 n:Nat
 imm:Nat->Prop
 Gb:Nat->Prop
 fr:Nat->Prop
structure FRel(G:zbf)(N:Nat)(F0:FB)(s:AS)(σ:FSt)(a:Act)(w:World)(E:Env):Prop where
 rel:Rel G N (reb F0.n w E s) s a w E
 avoid:∀b,E.imm b\/za1 E s b\/b∈E.dfs->¬σ.Gb b
 bd:σ.B<=w.heap.size
 gs:∀x,σ.Gb x->x<w.heap.size
 near:∀b o,E.imm b->w.heap[b]?=some o->Near o
 nearN:∀b o,F0.n<=b->¬σ.Gb b->w.heap[b]?=some o->Near o
 nle:F0.n<=F0.w.heap.size
 size:F0.w.heap.size<=w.heap.size
 keep:∀b,F0.fr b\/F0.imm b->b<F0.w.heap.size/\w.heap[b]?=F0.w.heap[b]?/\¬za1 E s b/\b∉E.dfs/\¬σ.Gb b
 dfsN:∀b,b∈E.dfs->F0.n<=b
 immO:∀b,E.imm b->¬F0.fr b
 gbO:∀b,(F0.Gb b->σ.Gb b)/\(b<F0.w.heap.size->σ.Gb b->F0.Gb b)
 os:OsLater F0.w.os w.os
 out:w.output=F0.w.output
variable{G:zbf}{N:Nat}{F0:FB}{s s' u:AS}{σ σ':FSt}{a a':Act}{w w':World}{E E':Env}{Post:Value->World->Prop}{fn:FuncId}
theorem FRel.heldN(h:FRel G N F0 s σ a w E){b:Nat}(hb:za1 E s b):F0.n<=b:=by obtain⟨i,hi⟩:=hb;exact(h.rel.new i b hi).1.1
theorem FRel.inA(h:FRel G N F0 s σ a w E){b:Nat}(hb:Ab.inA E s w b):¬σ.Gb b:=by
 rcases hb with hb|hb|hb
 .exact h.avoid b (.inl hb)
 .exact h.avoid b (.inr (.inl hb))
 .exactλhg=>by have:=h.gs b hg;omega
theorem FRel.nearA(h:FRel G N F0 s σ a w E):zqq (Ab.inA E s w) w:=λb o hb ho=>by
 rcases hb with hb|hb|hb
 .exact h.near b o hb ho
 .exact h.nearN b o (h.heldN hb) (h.avoid b (.inr (.inl hb))) ho
 .have:=(kad.1 ho).1;omega
theorem FRel.drew(h:FRel G N F0 s σ a w E)(d:Nat):FRel G N F0 s σ a (w.at d) E :=
 ⟨h.rel.at (kac _) (λ_ _=>rfl) rfl rfl rfl (λ_ h=>h) λ_ h=>.inl h,h.avoid,h.bd,h.gs,h.near,h.nearN,h.nle,h.size,h.keep,h.dfsN,h.immO,h.gbO,h.os,h.out⟩
theorem FRel.ran(h:FRel G N F0 s σ a w E){new:Array Event}(hr:Rel G N (reb F0.n w E s) s' a' w' E')(hran:zqo (Ab.inA E s w) w w' new):FRel G N F0 s' ⟨σ.Gb,w'.heap.size⟩ a' w' E':=by
 have hsz:=hran.size;have hcls:∀b,E'.imm b\/za1 E' s' b\/b∈E'.dfs->(E.imm b\/za1 E s b\/b∈E.dfs)\/w.heap.size<=b:=λb hb=>by
  rcases kae b w.heap.size with hlt|hge
  .left;rcases hb with hb|⟨i,hi⟩|hb
   .exact(hr.old b hb hlt).elim .inl λh=>.inr (.inl h)
   .exact((hr.new i b hi).1.2 hlt).1.elim (λh=>.inr (.inl h)) λh=>.inr (.inr h)
   .exact((hr.dfo.2 b hb).1 hlt).elim (λh=>.inr (.inl h)) λh=>.inr (.inr h)
  .exact .inr hge
 refine⟨hr.at (kac _) (λ_ _=>rfl) rfl rfl rfl (λ_ h=>h) λ_ h=>.inl h,λb hb=>?_,kac _,λx hx=>kaf (h.gs x hx) hsz,λb o hb ho=>?_,λb o hb hg ho=>?_,h.nle,kak h.size hsz,λb hb=>?_,λb hb=>?_,λb hb hF=>?_,h.gbO,?_,?_⟩
 .rcases hcls b hb with h1|h1
  .exact h.avoid b h1
  .exactλhg=>by have:=h.gs b hg;omega
 .rcases kae b w.heap.size with hlt|hge
  .exact(hr.old b hb hlt).elim (λh1=>hran.near b o (.inl h1) ho) λh1=>hran.near b o (.inr (.inl h1)) ho
  .exact hran.near b o (.inr (.inr hge)) ho
 .by_cases hA:Ab.inA E s w b
  .exact hran.near b o hA ho
  .exact h.nearN b o hb hg ((hran.frame b hA).symm.trans ho)
 .obtain⟨h1,h2,h3,h4,h5⟩:=h.keep b hb;have hlt:=kaf h1 h.size;have hno:¬(za1 E s b\/b∈E.dfs):=λhh=>hh.elim h3 h4;refine⟨h1,(hr.ext.keep b hlt hno).trans h2,λ⟨i,hi⟩=>hno ((hr.new i b hi).1.2 hlt).1,λhD=>hno ((hr.dfo.2 b hD).1 hlt),h5⟩
 .rcases kae b w.heap.size with hlt|hge
  .rcases(hr.dfo.2 b hb).1 hlt with h1|h1
   .exact h.heldN h1
   .exact h.dfsN b h1
  .exact kak (kak h.nle h.size) hge
 .obtain⟨h1,_,h3,_⟩:=h.keep b (.inl hF);rcases hr.old b hb (kaf h1 h.size) with h2|h2
  .exact h.immO b h2 hF
  .exact h3 h2
 .rw [hran.os];exact h.os
 .rw [hran.output];exact h.out
def AOpJ(C:Cx)(N:Nat)(o:Oper)(R:List Nat)(s u:AS):Prop :=
 ∀(Post:Value->World->Prop) (F0:FB) σ E s' a w,(∀r∈R,zac s' r=zac s r)->FRel C.G N F0 s' σ a w E->zd2 o=true->∀(r:Option Nat) (fn:FuncId) (ops:Array Oper) (i:Nat) (rest:List Nat) (Q:Exit->FSt->Act->World->Prop),ops[i]?=some o->Region.wanted o (yielded ops a.tmps)=true->
  (∀σ' v w' E',FRel C.G N F0 (u++s') σ' (a.put o.dst v) w' E'->OpsR (jdgF C.P Post) r fn ops rest Q σ' (a.put o.dst v) w')->OpsR (jdgF C.P Post) r fn ops (i::rest) Q σ a w
theorem zax{C:Cx}{o:Oper}{R:List Nat}(h:AOp C N o R s u)(hf:AFt C o R s):AOpJ C N o R s u:=by
 intro Post F0 σ E s' a w hR hr hnd r fn ops i rest Q ho hw hK;refine opsR_cons (D:=jdgF C.P Post) ho hw (λc e=>by simp [zd2,e] at hnd) λw1 hs=>?_;obtain⟨d,rfl⟩:=hs;have hr1:=hr.drew d;have hstep:=h (reb F0.n (w.at d) E s') E s' a (w.at d) hR hr1.rel (λa' w'=>∃E',Rel C.G N (reb F0.n (w.at d) E s') (u++s') a' w' E') (λ_ _ _=>False) λa' w' E' hr'=>⟨E',hr'⟩
 have hft:=hf N _ E s' a (w.at d) hR hr1.rel;obtain⟨rs,new,h1,h2,h3⟩:=ft_run _ hft (w.at d) #[] hr1.nearA λb hb=>.inr (.inr hb);rw [kcf] at h1;have hrun:(execOp a.eval o).run C.P (w.at d)=rs:=by rw [<-Sem.runT_fst _ _ _ #[]];exact congrArg Prod.fst h1
 have hev:(execOp a.eval o).events C.P (w.at d) #[]=new:=congrArg Prod.snd h1;have hrun2:(execOp a.eval o).run (jdgF C.P Post).P (w.at d)=rs:=hrun;rw [hrun2]
 have hfin:∀(v:Value) w',zqo (Ab.inA E s' (w.at d)) (w.at d) w' new->(∃E',Rel C.G N (reb F0.n (w.at d) E s') (u++s') (a.put o.dst v) w' E')->∃s',(jdgF C.P Post).Ok σ (w.at d) w' (Conc.listed C.P fn a o (w.at d)) s'/\OpsR (jdgF C.P Post) r fn ops rest Q s' (a.put o.dst v) w':=by
  rintro v w' hran ⟨E',hr'⟩;refine⟨⟨σ.Gb,w'.heap.size⟩,⟨λ_ h=>h,kak hr.bd hran.size,λe he=>?_⟩,hK _ v w' E' (hr1.ran hr' hran)⟩;have he2:e∈new:=by rw [<-hev];exact seen_sub he
  exact zjx (λb hb=>hr1.inA hb) (hran.evs e he2)
 unfold Oper.wp at hstep;rw [hrun] at hstep;cases rs with
 | halt x w'=>exact(show False by cases x<;>exact hstep).elim
 | ok nx w' =>
   rcases(show yfj nx from h3) with ⟨v,rfl⟩|rfl
   .exact hfin v w' h2 hstep
   .exact hfin undef w' h2 hstep
end
end Go.Ab
namespace Go.Ab.J
open Go Go.RowKit
open Go.Kp (FSt jdgF WpR OpsR opsR_nil opsR_unwanted Near)
def zek(C:Cx)(N:Nat)(ops:Array Oper)(o:Oper)(R:List Nat)(s u:AS):Prop :=
 match o.guard with
 | none=>AOpJ C N o R s u
 | some (j,want)=>∃t v,(ops[j]?).bind (·.dst)=some t/\zac s (2*t)=some (.av (.val v))/\2*t∈R/\
  ((v=.bool want/\AOpJ C N o R s u)\/(v≠.bool want/\∃d,o.dst=some d/\d<N/\u=[(2*d,.av (.val undef))]))
theorem _root_.Go.Ab.AOpJ.sub{C:Cx}{N:Nat}{o:Oper}{R R':List Nat}{s u:AS}(h:AOpJ C N o R s u)(hs:∀r∈R,r∈R'):AOpJ C N o R' s u :=
 λPost F0 σ E s' a w hR hr=>h Post F0 σ E s' a w (λq hq=>hR q (hs q hq)) hr
theorem _root_.Go.Ab.AOpJ.agree{C:Cx}{N:Nat}{o:Oper}{R:List Nat}{s s' u:AS}(h:AOpJ C N o R s u)(hs:∀r∈R,zac s' r=zac s r):AOpJ C N o R s' u :=
 λPost F0 σ E s2 a w hR hr=>h Post F0 σ E s2 a w (λr hr=>(hR r hr).trans (hs r hr)) hr
theorem zek.agree{C:Cx}{N:Nat}{ops:Array Oper}{o:Oper}{R:List Nat}{s s' u:AS}(h:zek C N ops o R s u)(hs:∀r∈R,zac s' r=zac s r):zek C N ops o R s' u:=by
 unfold zek at *;split
 .rename_i hg;rw [hg] at h;exact h.agree hs
 .rename_i j want hg;rw [hg] at h;obtain⟨t,b,h1,h2,h3,h4⟩:=h;exact⟨t,b,h1,(hs _ h3).trans h2,h3,h4.imp (λ⟨p,q⟩=>⟨p,q.agree hs⟩) id⟩
section
variable{C:Cx}{G:zbf}{N:Nat}{F0:FB}{s s' u:AS}{σ σ':FSt}{a a':Act}{w w':World}{E E':Env}{Post:Value->World->Prop}{r:Option Nat}{fn:FuncId}{Q:Exit->FSt->Act->World->Prop}
theorem _root_.Go.Ab.FRel.put(h:FRel G N F0 s σ a w E){d:Nat}(hd:d<N){x:AV}{v:Value}(hx:Rep E w x v)(hs:∀i∈x.ids,zac s (2*i+1)≠none):FRel G N F0 ((2*d,.av x)::s) σ (a.put (some d) v) w E:=by
 have hh:∀k,za1 E ((2*d,.av x)::s) k↔za1 E s k:=λk=>by simp only [za1];exact exists_congr λi=>by rw [zaa,if_neg oc]
 have hr:=h.rel.put hd hx hs;exact⟨hr.at (kac _) (λ_ _=>rfl) rfl rfl rfl (λ_ h=>h) λ_ h=>.inl h,λb hb=>h.avoid b (hb.imp id λh=>h.imp (hh b).1 id),h.bd,h.gs,h.near,h.nearN,h.nle,h.size,λb hb=>let ⟨h1,h2,h3,h4⟩:=h.keep b hb;⟨h1,h2,λhx=>h3 ((hh b).1 hx),h4⟩,h.dfsN,h.immO,h.gbO,h.os,h.out⟩
theorem _root_.Go.Ab.FRel.congr(h:FRel G N F0 s σ a w E)(hs:∀k,zac s' k=zac s k):FRel G N F0 s' σ a w E:=by
 have hh:∀k,za1 E s' k↔za1 E s k:=λk=>by simp only [za1];exact exists_congr λi=>by rw [hs]
 exact⟨(h.rel.congr hs).at (kac _) (λ_ _=>rfl) rfl rfl rfl (λ_ h=>h) λ_ h=>.inl h,λb hb=>h.avoid b (hb.imp id λh=>h.imp (hh b).1 id),h.bd,h.gs,h.near,h.nearN,h.nle,h.size,λb hb=>let ⟨h1,h2,h3,h4⟩:=h.keep b hb;⟨h1,h2,λhx=>h3 ((hh b).1 hx),h4⟩,h.dfsN,h.immO,h.gbO,h.os,h.out⟩
theorem zek.run{ops:Array Oper}{o:Oper}{R:List Nat}(h:zek C N ops o R s u)(hr:FRel C.G N F0 s σ a w E)(hnd:zd2 o=true){i:Nat}(ho:ops[i]?=some o){rest:List Nat}
  (hK:∀σ' v w' E',FRel C.G N F0 (u++s) σ' (a.put o.dst v) w' E'->OpsR (jdgF C.P Post) r fn ops rest Q σ' (a.put o.dst v) w'):OpsR (jdgF C.P Post) r fn ops (i::rest) Q σ a w:=by
 unfold zek at h
 split at h
 .rename_i hg;exact h Post F0 σ E s a w (λ_ _=>rfl) hr hnd r fn ops i rest Q ho (by simp [Region.wanted,hg]) hK
 .rename_i j want hg;obtain⟨t,b,h1,h2,h3,h4⟩:=h;rcases h4 with ⟨h5,h6⟩|⟨h5,d,h6,h7,h8⟩
  .subst h5;have hy:=zo6 (tmps:=a.tmps) h1 (hr.rel.tmp t _ h2).val_eq;exact h6 Post F0 σ E s a w (λ_ _=>rfl) hr hnd r fn ops i rest Q ho (by simp [Region.wanted,hg,hy]) hK
  .have hy:=zyy (tmps:=a.tmps) h1 (hr.rel.tmp t _ h2).val_eq h5;refine opsR_unwanted (D:=jdgF C.P Post) ho (by simp [Region.wanted,hg,hy]) ?_;have:=hK σ undef w E;rw [h6] at this |-;subst h8;exact this (hr.put h7 (.val undef) ox)
end
section draw
variable{C:Cx}{N:Nat}{ops:List Oper}{data:List (List Nat×List Nat)}{us:List AS}{s:AS}
structure zqs(C:Cx)(N:Nat)(ops:List Oper)(data:List (List Nat×List Nat))(us:List AS)(s:AS):Prop where
 len:us.length=ops.length
 step:∀i o,ops[i]?=some o->∃R W,data[i]?=some (R,W)/\W=(us.getD i []).map (·.1)/\zek C N ops.toArray o R (stD us s (λ_=>True) i) (us.getD i [])
 ord:ztw ops data=true
theorem zqs.pair(h:zqs C N ops data us s){D:Nat->Prop}(hD:z68 ops D){i j:Nat}(hij:i<j)(hj:j<ops.length)(hDj:D j)(hDi:¬D i) :
  ∃Ri Wi Rj Wj,data[i]?=some (Ri,Wi)/\data[j]?=some (Rj,Wj)/\(∀r,r∈Wi->r∈Rj++Wj->False)/\(∀r,r∈Ri->r∈Wj->False):=by
 have ho:=h.ord
 simp only [ztw,ka0,kar,ka3] at ho
 have hp:=ho.2 j hj i hij
 unfold zoa at hp
 split at hp
 .rename_i Ri Wi Rj Wj l h1 h2 h3;refine⟨Ri,Wi,Rj,Wj,h1,h2,?_⟩;have hl:∀k∈l,D k:=zo0 hD ops [] od od j l h3 hDj;have hnot:l.any (Nat.beq i)=false:=by
    cases hb:l.any (Nat.beq i) with
    | false=>rfl
    | true =>obtain⟨k,hk,hkk⟩:=kaz.1 hb;have:=kaj hkk;subst this;exact absurd (hl i hk) hDi
  rw [hnot,Bool.false_or,kb7,kbp] at hp;exact⟨λr a b=>(by rw [zv3 a b] at hp;exact Bool.noConfusion hp.1),λr a b=>(by rw [zv3 a b] at hp;exact Bool.noConfusion hp.2)⟩
 .cases hp
theorem zqs.get(h:zqs C N ops data us s){i:Nat}{o:Oper}{R W:List Nat}(ho:ops[i]?=some o)(hd:data[i]?=some (R,W)):W=(us.getD i []).map (·.1)/\zek C N ops.toArray o R (stD us s (λ_=>True) i) (us.getD i []):=by
 obtain⟨R',W',h1,h2,h3⟩:=h.step i o ho;rw [hd] at h1;cases h1
 exact⟨h2,h3⟩
theorem zqs.wkeys(h:zqs C N ops data us s){i:Nat}{R W:List Nat}(hi:i<ops.length)(hd:data[i]?=some (R,W)){r:Nat}:zac (us.getD i []) r≠none↔r∈W:=by rw [zc1,(h.get (kaa hi) hd).1]
theorem zqs.any(h:zqs C N ops data us s)(hnd:ops.all zd2=true){F0:FB}{Post:Value->World->Prop}{r:Option Nat}{fn:FuncId}{Q:Exit->FSt->Act->World->Prop}{a0:Act}(hQ:∀σ a w E,FRel C.G N F0 (stD us s (λ_=>True) ops.length) σ a w E->zqp ops a0 a->Q .normal σ a w) :
  ∀(fuel t:Nat) (listed:Array Bool) (σ:FSt) (a:Act) (w:World) (E:Env),listed.size=ops.length->z68 ops (lst listed)->cnt listed ops.length<=fuel->FRel C.G N F0 (stD us s (lst listed) ops.length) σ a w E->zqp ops a0 a->
   OpsR (jdgF C.P Post) r fn ops.toArray (Region.linearise.go .any ops.toArray fuel t listed []) Q σ a w:=by
 have hfin:∀(listed:Array Bool) (σ:FSt) (a:Act) (w:World) (E:Env),(∀j,j<ops.length->lst listed j)->FRel C.G N F0 (stD us s (lst listed) ops.length) σ a w E->zqp ops a0 a->Q .normal σ a w:=λlisted σ a w E hall hr hoff=>by rw [zij (D':=λ_=>True) λj hj=>⟨λ_=>trivial,λ_=>hall j hj⟩] at hr;exact hQ σ a w E hr hoff
 intro fuel
 induction fuel with
 | zero =>intro t listed σ a w E hz hD hc hr hoff;have hall:=zlj (show cnt listed ops.length=0 by omega);simpa [Region.linearise.go] using opsR_nil (D:=jdgF C.P Post) (hfin listed σ a w E hall hr hoff)
 | succ fuel ih =>
   intro t listed σ a w E hz hD hc hr hoff;simp only [Region.linearise.go];change OpsR (jdgF C.P Post) r fn ops.toArray (match (Region.ready .any ops.toArray listed)[t % (Region.ready .any ops.toArray listed).length]? with
    | some i=>Region.linearise.go .any ops.toArray fuel (t / (Region.ready .any ops.toArray listed).length) (listed.setIfInBounds i true) [i]
    | none=>[].reverse) Q σ a w
   cases hi':(Region.ready .any ops.toArray listed)[t % (Region.ready .any ops.toArray listed).length]? with
   | none =>
     have hnil:Region.ready .any ops.toArray listed=[]:=by
      cases hr:Region.ready .any ops.toArray listed with
      | nil=>rfl
      | cons x xs =>rw [hr] at hi';have hlt:t % (x::xs).length<(x::xs).length:=Nat.mod_lt _ od;simp at hi';simp at hlt;omega
     refine opsR_nil (D:=jdgF C.P Post) (hfin listed σ a w E (λj hj=>?_) hr hoff);refine Classical.byContradiction λhn=>?_
     have key:∀k,k<=ops.length->∀j,j<k->lst listed j:=by
      intro k;induction k with
      | zero=>intro _ j hj;omega
      | succ k ihk =>
        intro hk j hj;rcases kae j k with hlt|hge
        .exact ihk oc j hlt
        .have:j=k:=oc
         subst this;refine Classical.byContradiction λhn=>?_;have hjl:j<ops.length:=oc
         have:j∈Region.ready .any ops.toArray listed:=by
          refine mem_ready.2 ⟨?_,ops[j],by simp [hjl],λe he hb=>?_⟩
          .unfold lst at hn;simp [hz,hjl] at hn |-;exact hn
          .obtain⟨l,h1,h2⟩:=zsv ops [] j ops[j] (kaa hjl);simp only [kbv,kb0] at h1;have ho:=h.ord;simp only [ztw,ka0] at ho;have h3:=kar.1 ho.1.2 (l,j) (by rw [kc7];exact h1);have h4:=kar.1 h3 e.on (h2 e he hb);have:e.on<j:=by simpa [Nat.blt_eq] using h4
           exact ihk oc e.on this
         rw [hnil] at this;cases this
     exact hn (key ops.length (kac _) j hj)
   | some i =>
     have hi:=kag hi';simp only [];rw [linearise_go_acc,List.reverse_singleton,List.singleton_append];obtain⟨h1,o,h2,h3⟩:=mem_ready.1 hi;have hlt:i<ops.length:=by have:=(kad.1 h2).1;simpa using this
     have ho:ops[i]?=some o:=oa h2
     have hni:¬lst listed i:=λe=>by unfold lst at e;simp [hz,hlt] at h1 e;rw [h1] at e;cases e
     obtain⟨R,W,hd,hW,hst⟩:=h.step i o ho;have hpre:∀e∈o.after,Region.binds .any e=true->lst listed e.on:=h3;have hD2:z68 ops λj=>lst listed j\/j=i:=λj q hq hj e he hb=>by
      rcases hj with hj|rfl
      .exact .inl (hD j q hq hj e he hb)
      .rw [ho] at hq;cases hq;exact .inl (hpre e he hb)
     have hread:∀r∈R,zac (stD us s (lst listed) ops.length) r=zac (stD us s (λ_=>True) i) r:=λr hrr=>by
      have:=zvl (us:=us) (s:=s) (D:=lst listed) (i:=i) (r:=r) (λj hj hw=>?_) (λj hj hDj=>?_) ops.length
      .rw [this,show min ops.length i=i by omega]
      .refine Classical.byContradiction λhn=>?_;obtain⟨Ri,Wi,Rj,Wj,g1,g2,g3,g4⟩:=h.pair hD2 hj hlt (.inr rfl) (λe=>e.elim hn oc);rw [hd] at g2;cases g2
       exact g3 r ((h.wkeys oc g1).1 hw) (by simp [hrr])
      .rcases kae j ops.length with hjl|hjl
       .have hne:i≠j:=λe=>hni (e▸hDj);obtain⟨Ri,Wi,Rj,Wj,g1,g2,g3,g4⟩:=h.pair hD (show i<j by omega) hjl hDj hni;rw [hd] at g1;cases g1
        cases hw:zac (us.getD j []) r with
        | none=>rfl
        | some c=>exact absurd ((h.wkeys hjl g2).1 (by rw [hw];simp)) λhh=>g4 r hrr hh
       .exact zy3 h.len hjl r
     have hset:∀j,lst (listed.setIfInBounds i true) j↔(lst listed j\/j=i):=λj=>by
      unfold lst;by_cases e:j=i
      .subst e;simp [hz,hlt]
      .rw [getD_set_ne false (Ne.symm e)];simp [e]
     have hmem:o∈ops:=kag ho;refine(hst.agree hread).run hr (kar.1 hnd o hmem) h2 λσ' v w' E' hr'=>?_;have hoff':=hoff.put hmem v
     .refine ih _ _ σ' _ w' E' (by simp [hz]) (λj q hq hj e he hb=>(hset _).2 (hD2 j q hq ((hset j).1 hj) e he hb)) ?_ ?_ hoff'
      .have:=z2e (l:=listed) (i:=i) oc (by unfold lst at hni;simpa using hni) ops.length;rw [if_pos hlt] at this;omega
      .rw [zij (D':=λj=>lst listed j\/j=i) λj _=>hset j];refine hr'.congr λr=>?_;have:=zzj (us:=us) (s:=s) (D:=lst listed) (i:=i) (r:=r) hni (λj hj hDj hw=>?_) ops.length
       .rw [this,if_neg oc,zbz]
       .rcases kae j ops.length with hjl|hjl
        .obtain⟨Ri,Wi,Rj,Wj,g1,g2,g3,g4⟩:=h.pair hD hj hjl hDj hni;rw [hd] at g1;cases g1
         cases hw2:zac (us.getD j []) r with
         | none=>rfl
         | some c=>exact absurd ((h.wkeys hjl g2).1 (by rw [hw2];simp)) λhh=>g3 r ((h.wkeys hlt hd).1 hw) (by simp [hh])
        .exact zy3 h.len hjl r
end draw
end Go.Ab.J
namespace Go.Ab
open Go Go.RowKit Go.Kp
variable{G:zbf}{N:Nat}{F0:FB}{s s':AS}{σ:FSt}{a a':Act}{w:World}{E E':Env}
theorem FRel.sub(h:FRel G N F0 s σ a w E)(hr:Rel G N (reb F0.n w E s) s' a' w E'):FRel G N F0 s' σ a' w E':=by have x:=h.ran hr (zqo.refl h.nearA);exact⟨x.rel,x.avoid,h.bd,x.gs,x.near,x.nearN,x.nle,x.size,x.keep,x.dfsN,x.immO,x.gbO,x.os,x.out⟩
namespace J
open Go.Kp (FSt jdgF WpR OpsR wpR_seq wpR_block wpR_cond wpR_loop wpR_region wpR_draw wpR_skip wpR_label wpR_ret wpR_exit opsR_nil)
def ADr(C:Cx)(N:Nat)(ops:List Oper)(dr:Bool)(K:AS->Prop):List Oper->List (List Nat×List Nat)->AS->Prop
 | [],acc,s=>(dr=true->ztw ops acc.reverse=true)/\K s
 | o::rest,acc,s=>∃R u,zek C N ops.toArray o R s u/\ADr C N ops dr K rest ((R,u.map (·.1))::acc) (u++s)
theorem ADr.data{C:Cx}{N:Nat}{ops:List Oper}{dr:Bool}{K:AS->Prop}:∀{l:List Oper} {acc:List (List Nat×List Nat)} {s:AS},ADr C N ops dr K l acc s->
  ∃(data:List (List Nat×List Nat)) (us:List AS),us.length=l.length/\(∀i o,l[i]?=some o->∃R W,data[i]?=some (R,W)/\W=(us.getD i []).map (·.1)/\zek C N ops.toArray o R (stD us s (λ_=>True) i) (us.getD i []))/\
   (dr=true->ztw ops (acc.reverse++data)=true)/\K (stD us s (λ_=>True) l.length)
 | [],acc,s,h=>⟨[],[],rfl,λi o h=>by simp at h,λhd=>by simpa using h.1 hd,by simpa [stD] using h.2⟩
 | o::l,acc,s,h=>by
   obtain⟨R,u,h1,h2⟩:=h;obtain⟨data,us,g1,g2,g3,g4⟩:=ADr.data h2;refine⟨(R,u.map (·.1))::data,u::us,by simp [g1],λi o' ho=>?_,λhd=>by simpa using g3 hd,by rw [kbo,zpi];exact g4⟩;cases i with
   | zero=>simp at ho;subst ho;exact⟨R,_,rfl,rfl,by simpa [stD] using h1⟩
   | succ i =>obtain⟨R',W',k1,k2,k3⟩:=g2 i o' (oa ho);exact⟨R',W',oa k1,oa k2,by rw [zpi];simpa using k3⟩
variable{C:Cx}{Post:Value->World->Prop}{r:Option Nat}{fn:FuncId}
theorem ADr.listJ{ops:List Oper}{dr:Bool}{K:AS->Prop}{Q:Exit->FSt->Act->World->Prop}{a0:Act}(hnd:ops.all zd2=true)(hQ:∀s σ a w E,K s->FRel C.G N F0 s σ a w E->zqp ops a0 a->Q .normal σ a w) :
  ∀{l:List Oper} {n:Nat} {acc:List (List Nat×List Nat)} {s:AS} {σ:FSt} {a:Act} {w:World} {E:Env},(∀j o,l[j]?=some o->ops[n+j]?=some o)->ADr C N ops dr K l acc s->FRel C.G N F0 s σ a w E->zqp ops a0 a->
   OpsR (jdgF C.P Post) r fn ops.toArray (List.range' n l.length) Q σ a w
 | [],n,acc,s,σ,a,w,E,hl,h,hr,hoff=>opsR_nil (D:=jdgF C.P Post) (hQ s σ a w E h.2 hr hoff)
 | o::l,n,acc,s,σ,a,w,E,hl,h,hr,hoff=>by
   obtain⟨R,u,h1,h2⟩:=h;have ho:ops[n]?=some o:=hl 0 o rfl;have hmem:=kag ho;rw [kbo,List.range'_succ];exact h1.run hr (kar.1 hnd o hmem) (oa ho) λσ' v w' E' hr'=>ADr.listJ hnd hQ (λj o' hj=>by
    have:=hl (j+1) o' (oa hj);rwa [show n+(j+1)=n+1+j by omega] at this) h2 hr' (hoff.put hmem v)
def AW(C:Cx)(r:Option Nat)(N:Nat)(c:Code)(Q:Exit->AS->Prop)(s:AS):Prop :=
 ∀(Post:Value->World->Prop) (F0:FB) σ E a w (fn:FuncId) (Qr:Exit->FSt->Act->World->Prop),FRel C.G N F0 s σ a w E->
  (∀e s' σ' a' w' E',Q e s'->FRel C.G N F0 s' σ' a' w' E'->zqv c a a'->Qr e σ' a' w')->WpR (jdgF C.P Post) r fn c Qr σ a w
section rules
variable{Q:Exit->AS->Prop}{c d:Code}
theorem zqk{Q':Exit->AS->Prop}(h:AW C r N c Q s)(hq:∀e s,Q e s->Q' e s):AW C r N c Q' s:=λPost F0 σ E a w fn Qr hr hQ=>h Post F0 σ E a w fn Qr hr λe s' σ' a' w' E' h1 h2 h3=>hQ e s' σ' a' w' E' (hq _ _ h1) h2 h3
theorem zbx{s':AS}(hs:Sub C.G N s s')(h:AW C r N c Q s'):AW C r N c Q s:=λPost F0 σ E a w fn Qr hr hQ=>let ⟨E',hr'⟩:=hs _ a w E hr.rel;h Post F0 σ E' a w fn Qr (hr.sub hr') hQ
theorem zuq(h:Q .normal s):AW C r N .skip Q s:=λ_Post _F0 σ E a w _fn _Qr hr hQ=>wpR_skip (hQ _ s σ a w E h hr (zqv.refl _ _))
theorem z6p{l:Nat}(h:Q .normal s):AW C r N (.label l) Q s:=λ_Post _F0 σ E a w _fn _Qr hr hQ=>wpR_label (hQ _ s σ a w E h hr (zqv.refl _ _))
theorem zur{i:Nat}(h:Q (.exit i) s):AW C r N (.exit i) Q s:=λ_Post _F0 σ E a w _fn _Qr hr hQ=>wpR_exit (hQ _ s σ a w E h hr (zqv.refl _ _))
theorem z2q(h:Q .ret s):AW C r N .ret Q s:=λ_Post _F0 σ E a w _fn _Qr hr hQ=>wpR_ret (hQ _ s σ a w E h hr (zqv.refl _ _))
theorem z8i(h:AW C r N c (zii (AW C r N d Q) Q) s):AW C r N (.seq c d) Q s:=λPost F0 σ E a w fn Qr hr hQ =>
 wpR_seq (h Post F0 σ E a w fn _ hr λe s' σ' a' w' E' h1 h2 h3=>by
  have hl:zqv (.seq c d) a a':=λt ht=>h3 t (by simp only [zno,kbp] at ht;exact ht.1);cases e<;>first|exact h1 Post F0 σ' E' a' w' fn Qr h2 (λe s2 σ2 a2 w2 E2 g1 g2 g3=>hQ e s2 σ2 a2 w2 E2 g1 g2 λt ht=>(g3 t (by simp only [zno,kbp] at ht;exact ht.2)).trans (hl t ht))|exact hQ _ s' σ' a' w' E' h1 h2 hl)
theorem z6s{i:Nat}(h:AW C r N c (zww i Q) s):AW C r N (.block i c) Q s:=λPost F0 σ E a w fn Qr hr hQ =>
 wpR_block (h Post F0 σ E a w fn _ hr λe s' σ' a' w' E' h1 h2 h3=>by
  cases e with
  | exit j =>
    simp only [zww] at h1;simp only [Go.Kp.blockJ];cases hb:Nat.beq j i with
    | true =>rw [hb] at h1;rw [if_pos (kaj hb)];exact hQ _ s' σ' a' w' E' h1 h2 h3
    | false =>rw [hb] at h1;rw [if_neg (λe=>by rw [e] at hb;simp at hb)];exact hQ _ s' σ' a' w' E' h1 h2 h3
  | _=>exact hQ _ s' σ' a' w' E' h1 h2 h3)
theorem z2t{x:Operand}{b:Bool}(hx:ev s x=some (.val (.bool b)))(h:AW C r N (if b then c else d) Q s):AW C r N (.cond x c d) Q s:=λPost F0 σ E a w fn Qr hr hQ =>
 wpR_cond (hr.rel.ev hx).val_eq (h Post F0 σ E a w fn Qr hr λe s' σ' a' w' E' h1 h2 h3=>hQ e s' σ' a' w' E' h1 h2 λt ht=>h3 t (by simp only [zno,kbp] at ht;cases b;exact ht.2;exact ht.1))
theorem z6q{x:Operand}(hx:ev s x=some (.val (.bool true)))(h:AW C r N c Q s):AW C r N (.cond x c d) Q s:=z2t hx (oa h)
theorem z6r{x:Operand}(hx:ev s x=some (.val (.bool false)))(h:AW C r N d Q s):AW C r N (.cond x c d) Q s:=z2t hx (oa h)
theorem z2s{ι:Type}(St:ι->AS)(μ:ι->Nat)(i0:ι)(h0:Sub C.G N s (St i0))(h:∀i,AW C r N c (zii (λs'=>∃j,Sub C.G N s' (St j)/\μ j<μ i) Q) (St i)):AW C r N (.loop c) Q s:=λPost F0 σ E a w fn Qr hr hQ=>by
 obtain⟨E0,hr0⟩:=h0 _ a w E hr.rel;refine wpR_loop (InvImage.wf μ kbu) (λi σ1 a1 w1=>∃E1,FRel C.G N F0 (St i) σ1 a1 w1 E1/\zqv c a a1) i0 ⟨E0,hr.sub hr0,zqv.refl _ _⟩ ?_;rintro i σ1 a1 w1 ⟨E1,hr1,hs1⟩
 refine h i Post F0 σ1 E1 a1 w1 fn _ hr1 λe s' σ' a' w' E' h1 h2 h3=>?_;have hs:zqv c a a':=λt ht=>(h3 t ht).trans (hs1 t ht);cases e with
 | normal =>obtain⟨j,hsub,hlt⟩:=h1;obtain⟨E2,h4⟩:=hsub _ a' w' E' h2.rel;exact⟨j,hlt,E2,h2.sub h4,hs⟩
 | _=>exact hQ _ s' σ' a' w' E' h1 h2 λt ht=>hs t ht
theorem z2r{id:Nat}{l:List Oper}(hnd:l.all zd2=true)(h:ADr C N l false (Q .normal) l [] s):AW C r N (.region id l.toArray false) Q s:=λPost F0 σ E a w fn Qr hr hQ =>
 wpR_region (by
  have:=ADr.listJ (Post:=Post) (r:=r) (fn:=fn) (Q:=Qr) hnd (λs' σ' a' w' E' h1 h2 h3=>hQ _ s' σ' a' w' E' h1 h2 λt ht=>h3 t ht) (n:=0) (λj o hj=>oa hj) h hr (zqp.refl _ _);rw [kdi];simpa using this)
theorem ybo{id:Nat}{l:List Oper}(hm:C.P.follows .mixedOrders=true)(hnd:l.all zd2=true)(h:ADr C N l true (Q .normal) l [] s):AW C r N (.region id l.toArray true) Q s:=λPost F0 σ E a w fn Qr hr hQ=>by
 obtain⟨data,us,h1,h2,h3,h4⟩:=h.data;have hd:zqs C N l data us s:=⟨h1,h2,by simpa using h3 rfl⟩;refine wpR_draw (D:=jdgF C.P Post) (λs w=>⟨λ_ h=>h,kac _,od⟩) λw1 hs t=>?_;obtain⟨d,rfl⟩:=hs;have hz:stD us s (lst (Array.replicate l.toArray.size false)) l.length=stD us s (λ_=>False) l.length:=zij λj hj=>⟨λh=>by simp [lst,hj] at h,λh=>h.elim⟩
 have he:∀k,stD us s (λ_=>False) k=s:=λk=>by
  induction k with
  | zero=>rfl
  | succ k ih=>simp only [stD];rw [if_neg (λh=>h),ih]
 have hm':(jdgF C.P Post).P.follows .mixedOrders=true:=hm;simp only [Region.schedule,hm',Bool.true_or,if_true,Region.linearise];refine hd.any hnd (a0:=a) (λσ' a' w' E' hr' hoff=>hQ _ _ σ' a' w' E' h4 hr' λt ht=>hoff t ht) _ _ _ σ a _ E od (λj o hj hl=>?_) ?_ ?_ (zqp.refl _ _)
 .unfold lst at hl;rcases kae j l.length with hlt|hge
  .simp [hlt] at hl
  .simp [kd6.2 hge] at hl
 .have:∀k,cnt (Array.replicate l.toArray.size false) k<=k:=λk=>by
    induction k with
    | zero=>simp [cnt]
    | succ k ih =>
      simp only [cnt];have:∀b:Bool,(bif b then 0 else 1)<=1:=λb=>by cases b<;>decide
      have:=this ((Array.replicate l.toArray.size false).getD k false);omega
  simpa using this l.length
 .rw [hz,he];exact hr.drew (d+1)
end rules
end J
end Go.Ab
namespace Go.Ab
open Go Go.RowKit Go.Kp
open Go.ConcM (OsLater)
structure ycl(σ:FSt)(w:World)(σ':FSt)(w':World):Prop where
 size:w.heap.size<=w'.heap.size
 keep:∀b,b<w.heap.size->¬σ.Gb b->w'.heap[b]?=w.heap[b]?
 os:OsLater w.os w'.os
 out:w'.output=w.output
 bd:σ'.B<=w'.heap.size
 gs:∀x,σ'.Gb x->x<w'.heap.size
 gb:∀b,(σ.Gb b->σ'.Gb b)/\(b<w.heap.size->σ'.Gb b->σ.Gb b)
 near:∀b o,w.heap.size<=b->¬σ'.Gb b->w'.heap[b]?=some o->Near o
variable{G:zbf}{N:Nat}{F0:FB}{s s':AS}{σ σ':FSt}{a a':Act}{w w':World}{E E':Env}
def z96(w w':World)(σ':FSt)(X:Nat->Prop)(b:Nat):Prop:=w.heap.size<=b/\b<w'.heap.size/\¬σ'.Gb b/\X b
theorem FRel.gone(h:FRel G N F0 s σ a w E)(k:ycl σ w σ' w')(X:Nat->Prop):FRel G N F0 s σ' a w' { E with imm:=λb=>E.imm b\/z96 w w' σ' X b }:=by
 have hlt:∀b,E.imm b\/za1 E s b\/b∈E.dfs->b<w.heap.size:=λb hb=>by
  rcases hb with hb|⟨i,hi⟩|hb
  .exact h.rel.imm b hb
  .exact(h.rel.new i b hi).2.2
  .exact(kad.1 (h.rel.dfo.2 b hb).2).1
 have hh:∀b,za1 { E with imm:=λb=>E.imm b\/z96 w w' σ' X b } s b↔za1 E s b:=λb=>by
  simp only [za1];refine exists_congr λi=>?_;cases zac s (2*i+1) with
  | none=>exact Iff.rfl
  | some c=>cases c<;>exact Iff.rfl
 have hcl:∀b,za1 E s b\/E.imm b\/b∈E.dfs->E.imm b\/za1 E s b\/b∈E.dfs:=λb hb=>by rcases hb with h|h|h;exact .inr (.inl h);exact .inl h;exact .inr (.inr h)
 refine⟨h.rel.at k.size (λb hb=>k.keep b (hlt b (hcl b hb)) (h.avoid b (hcl b hb))) rfl rfl rfl (λ_ h=>.inl h) λb hb=>hb.imp id λh=>⟨h.1,h.2.1⟩,λb hb hg=>?_,k.bd,k.gs,λb o hb ho=>?_,λb o hb hg ho=>?_,h.nle,kak h.size k.size,λb hb=>?_,h.dfsN,λb hb hF=>?_,λb=>⟨λhg=>(k.gb b).1 ((h.gbO b).1 hg),λhl hg=>(h.gbO b).2 hl ((k.gb b).2 (kaf hl h.size) hg)⟩,h.os.trans k.os,k.out.trans h.out⟩
 .rcases hb with (hb|hb)|hb|hb
  .exact h.avoid b (.inl hb) ((k.gb b).2 (hlt b (.inl hb)) hg)
  .exact hb.2.2.1 hg
  .have:=(hh b).1 hb;exact h.avoid b (.inr (.inl this)) ((k.gb b).2 (hlt b (.inr (.inl this))) hg)
  .exact h.avoid b (.inr (.inr hb)) ((k.gb b).2 (hlt b (.inr (.inr hb))) hg)
 .rcases hb with hb|hb
  .exact h.near b o hb ((k.keep b (hlt b (.inl hb)) (h.avoid b (.inl hb))).symm.trans ho)
  .exact k.near b o hb.1 hb.2.2.1 ho
 .rcases kae b w.heap.size with hl|hl
  .have hg3:¬σ.Gb b:=λhg2=>hg ((k.gb b).1 hg2);exact h.nearN b o hb hg3 ((k.keep b hl hg3).symm.trans ho)
  .exact k.near b o hl hg ho
 .obtain⟨h1,h2,h3,h4,h5⟩:=h.keep b hb;have hl:=kaf h1 h.size;exact⟨h1,(k.keep b hl h5).trans h2,λhx=>h3 ((hh b).1 hx),h4,λhg=>h5 ((k.gb b).2 hl hg)⟩
 .rcases hb with hb|hb
  .exact h.immO b hb hF
  .have:=(h.keep b (.inl hF)).1;have:=h.size;have:=hb.1;omega
namespace J
open Go.Kp (FSt jdgF WpR OpsR gR_enter)
def zo5(P:Program)(Post:Value->World->Prop)(f:FuncId)(args:Array Value)(σ:FSt)(w:World)(R:FSt->Value->World->Prop):Prop :=
 ∀(c:Frame) (cs:List Frame),(∀v,(c.finish v).mode=.run)->(∀σ' v w',R σ' v w'->(jdgF P Post).J σ' (Conc.G (c.finish v) cs) w')->(jdgF P Post).J σ (Conc.G (Frame.enter P f args .normal) (c::cs)) w
structure zs7(imm:Nat->Prop)(σ:FSt)(w:World):Prop where
 lt:∀b,imm b->b<w.heap.size
 gb:∀b,imm b->¬σ.Gb b
 bd:σ.B<=w.heap.size
 gs:∀x,σ.Gb x->x<w.heap.size
 near:∀b o,imm b->w.heap[b]?=some o->Near o
def AFn(C:Cx)(f:FuncId)(args:List AV)(r:AV):Prop :=
 r.ids=[]/\zdc C.P f=true/\∀(Post:Value->World->Prop) (imm:Nat->Prop) σ w vs,zs7 imm σ w->zb3 C.G (zca imm) w->yf1 (zca imm) w args vs->
  zo5 C.P Post f vs.toArray σ w λσ' v w'=>ycl σ w σ' w'/\Rep (zca λb=>imm b\/z96 w w' σ' (λ_=>True) b) w' r v
def ze1(C:Cx)(f:FuncId)(args:List AV)(wd:Nat)(T:TypeId)(rows:List (List AV)):Prop :=
 zn4 wd rows=true/\zdc C.P f=true/\∀(Post:Value->World->Prop) (imm:Nat->Prop) σ w vs,zs7 imm σ w->zb3 C.G (zca imm) w->yf1 (zca imm) w args vs->
  zo5 C.P Post f vs.toArray σ w λσ' v w'=>ycl σ w σ' w'/\(∀b,v.ownBlock=some b->¬σ'.Gb b)/\∃us,w'.ownsRow w.heap.size T wd v rows.length us/\yf1 (zca λb=>imm b\/z96 w w' σ' (λb=>some b≠v.ownBlock) b) w' rows.flatten us
theorem zfk{P:Program}{ρ:Operand->Value}{w:World}{x:Operand}{xs:Array Operand}{ts:Array TypeId}{f:FuncId}{p q:Array Value}{d:Option Tmp}{ty:TypeId}{pos:String}{af:Array Edge}{g:Option (Nat×Bool)}(hx:ρ x=.func (.func f) p q)(hc:zdc P f=true) :
  (execOp ρ ⟨d,.call { callee:=.value x,args:=xs,argTypes:=ts },ty,pos,af,g⟩).events P w #[]=#[]:=by
 unfold zdc at hc
 split at hc
 .rename_i fn hf;simp only [ka0,kb7] at hc;obtain⟨h1,h2⟩:=hc;have h3:fn.body≠none:=by cases hb:fn.body<;>simp_all
  have h1 : fn.name ≠ "runtime.NumGoroutine" := by simpa using h1
  unfold execOp;simp [resolve,Deferred.ofValue,invoke,callFunc,hx,hf,h1,h3]
 .cases hc
section
variable{C:Cx}{Post:Value->World->Prop}{r:Option Nat}{fn:FuncId}{ops:Array Oper}{i:Nat}{rest:List Nat}{o:Oper}{f:FuncId}{args:Array Value}{Q:Exit->FSt->Act->World->Prop}
theorem zgp{R:FSt->Value->World->Prop}(ho:ops[i]?=some o)(hw:Region.wanted o (yielded ops a.tmps)=true)(hn:∀c,o.op≠.defer c)(hr:∀w,(execOp a.eval o).run C.P w=.ok (.enter f args) w)(he:∀w,(execOp a.eval o).events C.P w #[]=#[])
  (hcall:zo5 C.P Post f args σ w R) (hK:∀σ' v w',R σ' v w'->OpsR (jdgF C.P Post) r fn ops rest Q σ' (a.put o.dst v) w'):OpsR (jdgF C.P Post) r fn ops (i::rest) Q σ a w:=by
 intro b k cs hb hk hro hc
 have hfin:∀v,(b.atR a (.inRegion ops (i::rest)::k)).finish v=b.atR (a.put o.dst v) (.inRegion ops rest::k):=λv=>by rw [Frame.finish_atR,ho];rfl
 refine Kp.Jdg.ctl (D:=jdgF C.P Post) (g':=Conc.G (Frame.enter C.P f args .normal) (b.atR a (.inRegion ops (i::rest)::k)::cs)) rfl rfl rfl (λw1=>?_) (hcall _ cs (λv=>by rw [hfin];rfl) λσ' v w' hR=>?_)
 .have:=gR_enter (main:=true) (rest:=rest) (b:=b) (k:=k) (cs:=cs) (P:=C.P) ho hw hn hk (hr w1);rw [Conc.listed_nil (he w1)] at this;exact this
 .rw [hfin];exact hK σ' v w' hR b k cs hb hk hro hc
end
theorem _root_.Go.Ab.FRel.ahead(h:FRel G N F0 s σ a w E):zs7 E.imm σ w:=⟨h.rel.imm,λb hb=>h.avoid b (.inl hb),h.bd,h.gs,h.near⟩
theorem _root_.Go.Ab.FRel.aheadT(h:FRel G N F0 s σ a w E):zs7 (zqt E s) σ w:=by
 refine⟨h.rel.immT_lt,λb hb=>?_,h.bd,h.gs,λb o hb ho=>?_⟩
 .exact hb.elim (λh1=>h.avoid b (.inl h1)) λh1=>h.avoid b (.inr (.inl h1))
 .exact hb.elim (λh1=>h.near b o h1 ho) λh1=>h.nearN b o (h.heldN h1) (h.avoid b (.inr (.inl h1))) ho
section call
variable{C:Cx}{d:Nat}{ty:TypeId}{pos:String}{af:Array Edge}{g:Option (Nat×Bool)}{x:Operand}{xs:Array Operand}{ts:Array TypeId}{f:FuncId}{p q ys zs:List AV}{z y:AV}
theorem z3l(hd:d<N)(hx:ev s x=some z)(hc:zba z=some (f,p,q))(hy:evL s xs.toList=some ys)(hi:zbb (p++ys++q)=[])(hf:AFn C f (p++ys++q) y) :
  AOpJ C N ⟨some d,.call { callee:=.value x,args:=xs,argTypes:=ts },ty,pos,af,g⟩ (rds x++zts xs.toList) s [(2*d,.av y)]:=by
 intro Post F0 σ E s' a w hR hr hnd r fn ops i rest Q ho hw hK
 obtain⟨hrid,hok,hf⟩:=hf
 have hx':=zat hR (λ_ h=>by simp [h]) hx
 obtain⟨h1,h2⟩:=hr.rel.evL ((zct λr h=>hR r oo).trans hy)
 obtain⟨us,vs,e1,e2⟩:=zfn (hr.rel.ev hx') hc h1
 have hcl:=yf1.step (E:=E) (E':=zca E.imm) (λ_ h=>h) (zdy.refl E w) e2 oV
 have:=hf Post E.imm σ w _ hr.ahead (zoi hr.rel.glb λ_ h=>h) hcl
 rw [ka9] at this
 refine zgp ho hw (λc e=>by cases e) (λw=>zfl e1 hok) (λw=>zfk e1 hok) this λσ' v w' hb=>?_
 obtain⟨hg,hrep⟩:=hb
 exact hK σ' v w' _ ((hr.gone hg λ_=>True).put hd (za8 hrep hrid λ_ h=>h) (by rw [hrid];simp))
theorem yb4(hd:d<N)(hx:ev s x=some z)(hc:zba z=some (f,p,q))(hy:evL s xs.toList=some ys)(hz:zf0 (th3 s) (p++ys++q)=some zs)(hfl:z79 y=true)(hf:AFn C f zs y){R:List Nat}(hRk:∀s',(∀k∈R,zac s' k=zac s k)->zf0 (th3 s') (p++ys++q)=zf0 (th3 s) (p++ys++q)) :
  AOpJ C N ⟨some d,.call { callee:=.value x,args:=xs,argTypes:=ts },ty,pos,af,g⟩ (rds x++zts xs.toList++R) s [(2*d,.av y)]:=by
 intro Post F0 σ E s' a w hR hr hnd r fn ops i rest Q ho hw hK
 obtain⟨hrid,hok,hf⟩:=hf
 have hx':=zat hR (λ_ h=>by simp [h]) hx
 obtain⟨h1,h2⟩:=hr.rel.evL ((zct λr h=>hR r oo).trans hy)
 obtain⟨us,vs,e1,e2⟩:=zfn (hr.rel.ev hx') hc h1
 have hz':=(hRk s' λk hk=>hR k (by simp [hk])).trans hz
 have hcl:=zcb (λx y v hx hy=>zy8 hr.rel hx hy) e2 hz'
 have:=hf Post (zqt E s') σ w _ hr.aheadT (zoi hr.rel.glb λ_ h=>.inl h) hcl
 rw [ka9] at this
 refine zgp ho hw (λc e=>by cases e) (λw=>zfl e1 hok) (λw=>zfk e1 hok) this λσ' v w' hb=>?_
 obtain⟨hg,hrep⟩:=hb
 exact hK σ' v w' _ ((hr.gone hg λ_=>True).put hd (z4s hrep hfl) (by rw [hrid];simp))
end call
end J
end Go.Ab
namespace Go.Kp
open Go
section
variable{A:Nat->Prop}{P:Program}
theorem zmo(r:Nat)(hr:A r):Ft A P (λ_=>True) (Instr.takeDeferred r):=by
 unfold Instr.takeDeferred;rw [ft_bind];refine zc4 hr λo ho=>?_;split
 .rw [ft_bind];exact zec hr trivial trivial
 .exact trivial
theorem zok(fn:Func)(tmps:Array Value)(h:∀b t,ResultVar.cell b t∈fn.results.toList->PtA A (tmps.getD b undef)):Ft A P (λ_=>True) (results fn tmps):=by
 have hm:∀(l:List ResultVar),(∀b t,ResultVar.cell b t∈l->PtA A (tmps.getD b undef))->Ft A P (λ_:List Value=>True) (l.mapM λ|.tmp t=>(pure (tmps.getD t undef):Sem Value)|.cell a t=>do loadVar t (<-asAddr (tmps.getD a undef))):=by
  intro l;induction l with
  | nil=>intro _;rw [List.mapM_nil];trivial
  | cons x l ih =>
    intro h;rw [kd3,ft_bind];refine ft_mono (Q:=λ_=>True) ?_ λv _=>?_
    .cases x with
     | tmp t=>trivial
     | cell a t=>rw [ft_bind];exact zmu _ (h a t od) λa ha=>zol t a ha λv=>trivial
    .rw [ft_bind];exact ft_mono (ih λb t hb=>h b t (by simp [hb])) λvs _=>trivial
 unfold results;rw [kdj,ft_bind,map_eq_pure_bind,ft_bind];refine ft_mono (hm _ h) λvs _=>?_;rw [zce,zce];trivial
end
end Go.Kp
namespace Go.Ab
open Go Go.RowKit Go.Kp
variable{G:zbf}{N:Nat}{F0:FB}{s s':AS}{σ σ':FSt}{a a':Act}{w w':World}{E E':Env}{C:Cx}{w0:zfq}
theorem zgm(h:Rel C.G N w0 s a w E):∀{xs:List ResultVar} {ys:List AV},z4o C s xs=some ys->∀b t,ResultVar.cell b t∈xs->PtA (inA E s w) (a.tmps.getD b undef)
 | [],_,_,b,t,hb=>by cases hb
 | x::xs,ys,e,b,t,hb=>by
   simp only [z4o] at e;split at e
   .rename_i y ys' e1 e2;rcases kat.1 hb with rfl|hb
    .simp only [ydd] at e1;split at e1
     .rename_i i hi;split at e1
      .rename_i T zs ti hl _;exact zvt h (h.tmp b _ hi) (by simp [ptB,hl,isCl])
      .cases e1
     .cases e1
    .exact zgm h e2 b t hb
   .cases e
theorem zbu{ds:List Nat}{b:Nat}:za1 { E with dfs:=ds } s b↔za1 E s b:=exists_congr λi=>by
 cases zac s (2*i+1) with
 | none=>exact Iff.rfl
 | some c=>cases c<;>exact Iff.rfl
namespace J
open Go.Kp (FSt jdgF WpR OpsR)
open Go.Conc (base)
theorem z0d{P:Program}{fr:Frame}{cs:List Frame}{D:Nat}{ds:List Deferred}{w:World}(hm:fr.mode=.returning)(hd:fr.defers=clD D::ds):stepG P true (Conc.G fr cs) w=GStep.after (seen P fr.fn ((Instr.takeDeferred D).runT P w #[]).2) (match ((Instr.takeDeferred D).runT P w #[]).1 with
  | .ok calls w=>.go (Conc.G { fr with defers:=calls++ds } cs) w
  | .halt _ w => .ended (.stuck "the deferred calls of a range-over-func loop have been taken" (fr.pos P)) w) := by
 have e:stepG P true (Conc.G fr cs) w=unwind P true fr cs none w:=by simp only [stepG,Conc.G,hm]
 rw [e]
 unfold unwind
 rw [hd]
 rfl
theorem zrq{P:Program}{fr:Frame}{fn:Func}{cs:List Frame}{w:World}(hm:fr.mode=.returning)(hd:fr.defers=[])(hf:P.funcs[fr.fn]?=some fn):stepG P true (Conc.G fr cs) w=GStep.after (seen P fr.fn ((results fn fr.tmps).runT P w #[]).2) (match ((results fn fr.tmps).runT P w #[]).1 with
  | .ok v w=>doReturn P true fr cs none v w
  | .halt (.stuck s) w=>.ended (.stuck s (fr.pos P)) w
  | .halt _ w => .ended (.stuck "return: the result variables cannot be read" (fr.pos P)) w) := by
 have e:stepG P true (Conc.G fr cs) w=unwind P true fr cs none w:=by simp only [stepG,Conc.G,hm]
 rw [e]
 unfold unwind
 rw [hd]
 simp only [hm,hf]
 rfl
theorem z3t{P:Program}{Post:Value->World->Prop}{g g':Goroutine}{A:Nat->Prop}(hr:g.status=.running)(ho:g.offers=none)(hr':g'.status=.running)(hA:∀b,A b->¬σ.Gb b)(hB:σ.B<=w.heap.size)
  (h:∀d,∃es,stepG P true g (w.at d)=.go g' (w'.at d) es/\∀e∈es,EvA A w'.heap.size e) (hz:w.heap.size<=w'.heap.size) (hj:(jdgF P Post).J ⟨σ.Gb,w'.heap.size⟩ g' w'):(jdgF P Post).J σ g w:=by
 refine(jdgF P Post).step hr ho λw1 hs=>?_
 obtain⟨d,rfl⟩:=hs
 obtain⟨es,h1,h2⟩:=h d
 refine⟨g',w'.at d,es,⟨σ.Gb,w'.heap.size⟩,h1,hr',⟨λ_ h=>h,kak hB hz,λe he=>zjx hA (h2 e he)⟩,(jdgF P Post).rely ⟨d,rfl⟩ hj⟩
theorem zve{P:Program}{D:Nat}(h:w.heap[D]?=some (.deferred (some [])))(d:Nat):((Instr.takeDeferred D).runT P (w.at d) #[]).1=.ok [] ((w.putObj D (.deferred none)).at d):=by have:=run_takeDeferred (P:=P) (w:=w.at d) (b:=D) (ds:=[]) h;rw [Sem.runT_fst];exact this
theorem zpr{Post:Value->World->Prop}{cs:List Frame}:∀(ds:List Nat) {σ:FSt} {a:Act} {w:World} {E:Env} (fr:Frame),fr.mode=.returning->fr.tmps=a.tmps->fr.defers=a.defers->FRel C.G N F0 s σ a w E->E.dfs=ds->
  (∀σ' w' E',FRel C.G N F0 s σ' { a with defers:=[] } w' E'->σ'.Gb=σ.Gb->(jdgF C.P Post).J σ' (Conc.G { fr with defers:=[] } cs) w')->(jdgF C.P Post).J σ (Conc.G fr cs) w
 | [],σ,a,w,E,fr,hm,ht,hd,h,hE,hK=>by
   have e:a.defers=[]:=by rw [h.rel.df,hE];rfl
   have e2:{ fr with defers:=[] }=fr:=by rw [<-hd.trans e]
   have:=hK σ w E (by rw [show({ a with defers:=[] }:Act)=a by rw [<-e]];exact h) rfl;rw [e2] at this;exact this
 | D::ds,σ,a,w,E,fr,hm,ht,hd,h,hE,hK=>by
   have e:a.defers=clD D::ds.map clD:=by rw [h.rel.df,hE];rfl
   have hD:=h.rel.dfo.2 D (by rw [hE];simp);have hDi:D∈E.dfs:=by rw [hE];simp
   have hnd:D∉ds/\ds.Nodup:=by have:=h.rel.dfo.1;rw [hE] at this;exact List.nodup_cons.1 this
   have hoth:∀k,k≠D->(w.putObj D (.deferred none)).heap[k]?=w.heap[k]?:=λk hk=>World.putObj_heap_other hk;have hz:(w.putObj D (.deferred none)).heap.size=w.heap.size:=World.putObj_size ..;have hk:zdy E w (w.putObj D (.deferred none)):=λb hb o v hc=>by
    by_cases e2:b=D
    .subst e2;simp [World.cell?,hD.2] at hc
    .rw [World.cell?_of_block (w:=w) (a:=⟨b,o,none⟩) (hoth b e2)];exact hc
   have hlt:=(kad.1 hD.2).1;have hm2:Rel C.G N (reb F0.n (w.putObj D (.deferred none)) { E with dfs:=ds } s) s { a with defers:=ds.map clD } (w.putObj D (.deferred none)) { E with dfs:=ds }:=by
    refine h.rel.move rfl rfl ⟨hnd.2,λD2 hD2=>⟨λ_=>.inr hD2,(hoth D2 λe3=>hnd.1 (e3▸hD2)).trans (h.rel.dfo.2 D2 (by rw [hE];simp [hD2])).2⟩⟩ rfl (λ_ h=>h) hk (λ_ _=>⟨rfl,rfl⟩)
     (λi b hb=>⟨hoth b (λe2=>h.rel.held hb (by rw [e2];exact hD.2)),(h.rel.new i b hb).2.1,(h.rel.new i b hb).1.1,λ_=>⟨.inl ⟨i,hb⟩,.inr ⟨i,hb⟩⟩⟩)
     (λb hb=>by rw [hz];exact h.rel.imm b hb) (by rw [hz];exact kac _) ⟨Below.refl _ _,λ_ _ _=>rfl,by show F0.n<=(w.putObj D (.deferred none)).heap.size;rw [hz];exact kak h.nle h.size⟩ λb hb _=>.inl hb
   have hsub:∀b,E.imm b\/za1 { E with dfs:=ds } s b\/b∈ds->E.imm b\/za1 E s b\/b∈E.dfs:=λb hb=>hb.imp id λh=>h.imp (λ⟨i,hi⟩=>⟨i,by
    cases hl:zac s (2*i+1) with
    | none=>rw [hl] at hi;cases hi
    | some c=>rw [hl] at hi;cases c<;>exact hi⟩) λh=>by rw [hE];simp [h]
   have hnear:∀b o,(w.putObj D (.deferred none)).heap[b]?=some o->(b=D/\Near o)\/w.heap[b]?=some o:=λb o ho=>by
    by_cases e2:b=D
    .subst e2;rw [World.putObj_heap_same hlt] at ho;cases ho
     exact .inl ⟨rfl,trivial⟩
    .rw [hoth b e2] at ho;exact .inr ho
   have h2:FRel C.G N F0 s ⟨σ.Gb,(w.putObj D (.deferred none)).heap.size⟩ { a with defers:=ds.map clD } (w.putObj D (.deferred none)) { E with dfs:=ds } :=
    ⟨hm2,λb hb=>h.avoid b (hsub b hb),kac _,λx hx=>by rw [hz];exact h.gs x hx,λb o hb ho=>(hnear b o ho).elim (λh=>h.2) λho=>h.near b o hb ho,λb o hb hg ho=>(hnear b o ho).elim (λh=>h.2) λho=>h.nearN b o hb hg ho,
      h.nle,by rw [hz];exact h.size,λb hb=>let ⟨h1,h2,h3,h4,h5⟩:=h.keep b hb;⟨h1,(hoth b λe2=>h4 (e2▸hDi)).trans h2,λhx=>h3 (zbu.1 hx),λhx=>h4 (by rw [hE];simp [show b∈ds from hx]),h5⟩,λb hb=>h.dfsN b (by rw [hE];simp [show b∈ds from hb]),h.immO,h.gbO,h.os,h.out⟩
   refine z3t (A:=λb=>b=D\/w.heap.size<=b) (w':=w.putObj D (.deferred none)) (g':=Conc.G { fr with defers:=ds.map clD } cs) rfl rfl rfl (λb hb=>hb.elim (λhb=>by rw [hb];exact h.avoid D (.inr (.inr hDi))) λhb hg=>by have:=h.gs b hg;omega) h.bd (λd=>?_) (by rw [hz];exact kac _) ?_
   .refine⟨seen C.P fr.fn ((Instr.takeDeferred D).runT C.P (w.at d) #[]).2,?_,λx hx=>?_⟩
    .rw [z0d hm (hd.trans e),zve hD.2 d];simp only [GStep.after,kdn,ka4]
    .obtain⟨rs,new,k1,k2,_⟩:=ft_run (A:=λb=>b=D\/w.heap.size<=b) (P:=C.P) _ (zmo D (.inl rfl)) (w.at d) #[] (λb o hb ho=>by
       rcases hb with rfl|hb
       .rw [show(w.at d).heap=w.heap from rfl,hD.2] at ho;cases ho;trivial
       .have:=(kad.1 ho).1;rw [show(w.at d).heap=w.heap from rfl] at this;omega) λr hr=>.inr hr
     have e3:Result.wld rs=(w.putObj D (.deferred none)).at d:=by have:=zve (P:=C.P) hD.2 d;rw [k1] at this;rw [show rs=_ from this];rfl
     rw [k1,kcf] at hx;have:=k2.evs x (seen_sub hx);rw [e3] at this;exact this
   .refine zpr ds (a:={ a with defers:=ds.map clD }) { fr with defers:=ds.map clD } hm ht rfl h2 rfl λσ' w' E' hr hg=>?_;exact hK σ' w' E' hr hg
end J
end Go.Ab
namespace Go.Ab
open Go Go.RowKit Go.Kp
section
variable{β:Type}{Jx:List β->Fp->World->Prop}{F0:Fp}{W0:World}
variable{G:zbf}{N:Nat}{w0:zfq}{s s':AS}{a a':Act}{w w':World}{E E':Env}{out:List β}{FJ:Fp}
def zjf(P:List β->AS->Prop)(Q:Exit->List β->AS->Prop):Exit->List β->AS->Prop
 | .normal,out,s=>P out s
 | e,out,s=>Q e out s
section rules
variable{C:Cx}{r:Option Nat}{c d:Code}{Q:Exit->List β->AS->Prop}
def blockJ(i:Nat)(Q:Exit->List β->AS->Prop):Exit->List β->AS->Prop
 | .exit j,out,s=>bif Nat.beq j i then Q .normal out s else Q (.exit j) out s
 | e,out,s=>Q e out s
end rules
end
end Go.Ab
namespace Go.Ab
open Go Go.RowKit
def Gd(ops:List Oper)(o:Oper)(s:AS)(G:List Nat):Prop:=(o.guard=none/\G=[])\/∃(j t:Nat) (want:Bool),o.guard=some (j,want)/\((ops.toArray)[j]?).bind (·.dst)=some t/\zac s (2*t)=some (.av (.val (.bool want)))/\G=[2*t]
def GdF(ops:List Oper)(o:Oper)(s:AS)(t:Nat):Prop:=∃(j:Nat) (want:Bool),o.guard=some (j,want)/\((ops.toArray)[j]?).bind (·.dst)=some t/\(zac s (2*t)=some (.av (.val (.bool (!want))))\/zac s (2*t)=some (.av (.val undef)))
section
variable{C:Cx}{r:Option Nat}{N:Nat}{ops rest:List Oper}{dr:Bool}{K:AS->Prop}{o:Oper}{acc:List (List Nat×List Nat)}{R G:List Nat}{s:AS}{k k2 k3 j t d:Nat}{c c2 c3:za7}{want e:Bool}
theorem gdN(h:o.guard=none):Gd ops o s []:=.inl ⟨h,rfl⟩
theorem gdT(hg:o.guard=some (j,want))(ht:((ops.toArray)[j]?).bind (·.dst)=some t)(hl:zac s (2*t)=some (.av (.val (.bool want)))):Gd ops o s [2*t]:=.inr ⟨j,t,want,hg,ht,hl,rfl⟩
theorem gdF(hg:o.guard=some (j,want))(ht:((ops.toArray)[j]?).bind (·.dst)=some t)(hl:zac s (2*t)=some (.av (.val (.bool (!want))))):GdF ops o s t:=⟨j,want,hg,ht,.inl hl⟩
theorem gdU(hg:o.guard=some (j,want))(ht:((ops.toArray)[j]?).bind (·.dst)=some t)(hl:zac s (2*t)=some (.av (.val undef))):GdF ops o s t:=⟨j,want,hg,ht,.inr hl⟩
def znc(_:Bool):Prop:=True
theorem uns(e:Bool):znc e:=trivial
variable{Q:Exit->AS->Prop}{a b:Code}{x:Operand}{i id:Nat}{l:List Oper}
end
end Go.Ab
