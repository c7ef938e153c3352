/- What all laws about sales rest on, beside any goroutines. Conditions: none. -/
import Derived.Test.YtfgciihkmemdlaaGreatDoorZo
import Derived.ChangeKeysEq
import Derived.Laws.StructEq
namespace Go.Ab.J
open Go Go.Proofs Go.Kp
section
def zch(u:Nat->ByteArray):zbf :=
 [(1,[.val (.string (u 0)),vi 4,.val .nilFunc,.val (.string (u 1)),vi 4,.val .nilFunc,.val (.string (u 2)),vi 4,.val .nilFunc,.val (.string (u 3)),vi 4,.val (.func (.func 217) #[] #[]),
     .val (.string (u 4)),vi 0,.val .nilFunc,.val (.string (u 5)),vi 0,.val (.func (.func 221) #[] #[])]),
  (0,[.val (.string (u 6)),vi 0,.val (.func (.func 214) #[] #[]),.val (.string (u 7)),vi 4,.val (.func (.func 216) #[] #[]),.val (.string (u 8)),vi 3,.val (.func (.func 218) #[] #[]),
    .val (.string (u 9)),vi 0,.val (.func (.func 219) #[] #[]),.val (.string (u 10)),vi 0,.val (.func (.func 220) #[] #[])])]
variable{G:zbf}{u:Nat->ByteArray}
attribute [local irreducible] AOp AW ADr AFn ze1 AFt AOpJ
set_option maxRecDepth 20000
set_option maxHeartbeats 8000000
theorem eta0{G:Prop}(h:G:=by((repeat' (first|refine sx ?_|(refine aZ ?_;intros)|refine w0 ?_|(refine s2 ?_ ?_<;>intro h7<;>try omega)));all_goals refine fe ?_;all_goals simp [*])):G:=h
theorem zdp(n lo hi:Int):AFn (cx G) 120 [vi n,vi lo,vi hi] (vb (decide (lo<=n/\n<=hi))):=by refine zag Tryz.func120 rfl Tryz.ntmps120 rfl rfl rfl ?_ rfl;exact eta0
theorem zpj(x y lo hi:Int):AFn (cx G) 103 [.agg [vi x,vi y],vi lo,vi hi] (vb (decide (lo<=x/\x<=y/\y<=hi))):=by refine zag Tryz.func103 rfl Tryz.ntmps103 rfl rfl rfl ?_ rfl;exact eta0
theorem zit(k:Int):AFn (cx G) 217 [vi k] (vb (decide (k=0\/k=1))):=by refine zag Tryz.func217 rfl Tryz.ntmps217 rfl rfl rfl ?_ rfl;exact eta0
theorem z0o(k:Int):AFn (cx G) 221 [vi k] (vb (!decide (k=5))):=by refine zag Tryz.func221 rfl Tryz.ntmps221 rfl rfl rfl ?_ rfl;exact eta0
theorem zje(b:Bool):AFn (cx G) 75 [vb b] (vi (if b then 0 else 6)):=by
 refine zag Tryz.func75 rfl Tryz.ntmps75 rfl rfl rfl ?_ rfl;cases b
 all_goals (repeat' (first|refine sx ?_|(refine aZ ?_;intros)|refine w0 ?_|fail))
 all_goals refine fe ?_
 all_goals rfl
theorem cta0{P G:Prop}(n:P)(h:Wr P->G:=by(intro n;first|((with_reducible apply kC);first|exact gB ⟨_,zdp _ _ _,.mk rfl n.p⟩|exact gK n.p|exact gS n.p)|exact⟨_,zdp _ _ _,n.p⟩|exact sk n.p|exact ap n.p)):G:=h ⟨n⟩
theorem z74(most:Int)(ss:List Slip)(ms:List SumR):AFn (cx G) 87 [bk most ss ms] (vi (zh7 most ss.length)):=by
 refine aby Tryz.func87 Tryz.ntmps87 λQ hQ=>?_;(repeat' (first|refine sx ?_|(refine aZ ?_;intros)|refine cta0 ?_|(refine s2 ?_ ?_<;>intro h7<;>try omega)));all_goals refine fe ?_
 all_goals refine congrArg vi ?_
 all_goals unfold zh7
 all_goals simp_all
 all_goals omega
theorem zu5(k a:Int):AFn (cx (zch u)) 55 [vi k,vi a] (vi (zc8 k a)):=by
 refine aby Tryz.func55 Tryz.ntmps55 λQ hQ=>?_;by_cases hk:0<=k/\k<=4
 .have hd:decide (0<=k/\k<=4)=true:=oa hk
  have:k=0\/k=1\/k=2\/k=3\/k=4:=oc
  rcases this with rfl|rfl|rfl|rfl|rfl;all_goals (repeat' (first|refine sx ?_|(refine aZ ?_;intros)|refine cta0 ?_|(refine s2 ?_ ?_<;>intro h7<;>try omega)))
  all_goals refine fe ?_
  all_goals refine congrArg vi ?_
  all_goals unfold zc8
  all_goals simp_all [zh0]
 .have hd:decide (0<=k/\k<=4)=false:=oa hk
  (repeat' (first|refine sx ?_|(refine aZ ?_;intros)|refine cta0 ?_|fail));refine fe ?_;refine congrArg vi ?_;unfold zc8;rw [if_neg oc]
end
end Go.Ab.J
namespace Go.Ab
open Go Go.Proofs Go.Kp
abbrev Am6:=Int×Int×Int×Int×Int×Int
def t6(l:List Int):Am6:=(l.getD 0 0,l.getD 1 0,l.getD 2 0,l.getD 3 0,l.getD 4 0,l.getD 5 0)
def ekA(a:Am6):Value:=.agg #[.int .i64 a.1,.int .i64 a.2.1,.int .i64 a.2.2.1,.int .i64 a.2.2.2.1,.int .i64 a.2.2.2.2.1,.int .i64 a.2.2.2.2.2]
theorem z1e:(Tryz.prog.info? 3).map (λi=>(i.zero,i.size,i.bytes))=some (some (.int .i64 0),1,8):=by kernel_rfl
theorem under_int:Tryz.prog.underlying 3=some (.int .i64):=by kernel_rfl
theorem z4h:Tryz.prog.cellsOf 3=1:=by kernel_rfl
theorem zdu(xs:Array Value)(off:Nat)(v:Value)(h:xs[off]?=some v)(w:World):(part 3 xs off).run Tryz.prog w=.ok v w:=by simp [part,isAgg,run_underlying under_int,h]
theorem zjy(d:Nat)(xs ys:Array Value)(i:Nat)(is:List Nat)(x y:Int)(hx:xs[i]?=some (.int .i64 x))(hy:ys[i]?=some (.int .i64 y))(w:World) :
  (Op.eqItems (d+1) 3 1 xs ys (i::is)).run Tryz.prog w=if x=y then (Op.eqItems (d+1) 3 1 xs ys is).run Tryz.prog w else .ok false w:=by
 simp only [Op.eqItems,Sem.run_bind,kd7,zdu xs i _ hx,zdu ys i _ hy,Result.andThen_ok,run_equalIn_int w d _ _ _ _ _ under_int]
 by_cases h:x=y
 .simp [h]
 .simp [h]
theorem z17(d:Nat)(a b:Am6)(w:World):(Op.equalIn (d+2) 97 (ekA a) (ekA b)).run Tryz.prog w=.ok (decide (a=b)) w:=by
 obtain⟨i0,hi,hz0,hz1,hz2⟩:=info_parts z1e;obtain⟨a0,a1,a2,a3,a4,a5⟩:=a;obtain⟨b0,b1,b2,b3,b4,b5⟩:=b;rw [ekA,ekA,run_equalIn_array w (d+1) _ _ zgi hi,z4h];simp only [List.range,List.range.loop];rw [zjy d _ _ 0 _ a0 b0 rfl rfl,zjy d _ _ 1 _ a1 b1 rfl rfl,zjy d _ _ 2 _ a2 b2 rfl rfl,zjy d _ _ 3 _ a3 b3 rfl rfl,zjy d _ _ 4 _ a4 b4 rfl rfl,zjy d _ _ 5 _ a5 b5 rfl rfl]
 simp only [Op.eqItems,Sem.run_pure];by_cases h0:a0=b0
 .by_cases h1:a1=b1
  .by_cases h2:a2=b2
   .by_cases h3:a3=b3
    .by_cases h4:a4=b4
     .by_cases h5:a5=b5
      .simp [h0,h1,h2,h3,h4,h5]
      .simp [h0,h1,h2,h3,h4,h5]
     .simp [h0,h1,h2,h3,h4]
    .simp [h0,h1,h2,h3]
   .simp [h0,h1,h2]
  .simp [h0,h1]
 .simp [h0]
theorem zsh : (Tryz.prog.fieldsOf 99).toList.map (λf => (f.name, f.type, f.offset)) = [("of", 97, 0)] := by kernel_rfl
theorem zpa:Tryz.prog.underlying 99=some (.struct (Tryz.prog.fieldsOf 99)):=by kernel_rfl
theorem z4e:Tryz.prog.stoodInHeld 99=false:=by kernel_rfl
theorem z4i:(Tryz.prog.info? 97).map (·.size)=some 6:=by kernel_rfl
theorem zgk(a:Am6)(w:World):(part 97 #[.int .i64 a.1,.int .i64 a.2.1,.int .i64 a.2.2.1,.int .i64 a.2.2.2.1,.int .i64 a.2.2.2.2.1,.int .i64 a.2.2.2.2.2] 0).run Tryz.prog w=.ok (ekA a) w:=by
 obtain⟨i,hi,hs⟩:∃i,Tryz.prog.info? 97=some i/\i.size=6:=by
  have:=z4i;cases h:Tryz.prog.info? 97 with
  | none=>rw [h] at this;cases this
  | some i=>rw [h] at this;exact⟨i,rfl,oa this⟩
 simp [part,isAgg,run_underlying zgi,sizeOf,typeInfo,hi,hs,go_sem,ekA]
theorem z6u(a b:Am6)(w:World):(Op.equal 99 (ekA a) (ekA b)).run Tryz.prog w=.ok (decide (a=b)) w:=by
 show(Op.equalIn (9999+1) _ _ _).run _ _=_;rw [ekA,ekA,run_equalIn_struct w 9999 _ _ _ zpa z4e];have hf:=zsh;generalize (Tryz.prog.fieldsOf 99).toList=fs at hf;obtain⟨f,rfl⟩:∃f,fs=[f]:=List.length_eq_one_iff.1 (by have:=congrArg List.length hf;simpa using this);simp only [kbq,kej,kc8,Prod.mk.injEq,and_true] at hf;obtain⟨h1,h2,h3⟩:=hf;have hn : f.name ≠ "_" := by rw [h1]; decide
 simp only [Op.eqFields,if_pos hn,h2,h3,Sem.run_bind];rw [zgk a w,Result.andThen_ok,zgk b w,Result.andThen_ok,z17 9997,Result.andThen_ok];by_cases h:a=b
 .simp [h]
 .simp [h]
theorem zsp(b:Bool)(n:Nat)(x:Int)(w:World):(Instr.checkKey b (n+1) 3 (.int .i64 x)).run Tryz.prog w=.ok () w:=by simp [Instr.checkKey,run_underlying under_int]
theorem z2i(b:Bool)(n:Nat)(a:Am6)(w:World):(Instr.checkKey b (n+2) 97 (ekA a)).run Tryz.prog w=.ok () w:=by
 obtain⟨i0,hi,hz0,hz1,hz2⟩:=info_parts z1e;have hs:∀w,(sizeOf 3).run Tryz.prog w=.ok 1 w:=λw=>by simp [sizeOf,typeInfo,hi,hz1,go_sem]
 obtain⟨a0,a1,a2,a3,a4,a5⟩:=a;have hp:∀(k:Nat) (x:Int),#[Value.int .i64 a0,.int .i64 a1,.int .i64 a2,.int .i64 a3,.int .i64 a4,.int .i64 a5][k]?=some (.int .i64 x)->∀w,(part 3 #[Value.int .i64 a0,.int .i64 a1,.int .i64 a2,.int .i64 a3,.int .i64 a4,.int .i64 a5] k).run Tryz.prog w=.ok (.int .i64 x) w:=λk x h w=>zdu _ k _ h w;rw [Instr.checkKey]
 simp only [Sem.run_bind,run_underlying zgi,Result.andThen_ok,ekA];simp [Std.Legacy.Range.forIn_eq_forIn_range',Std.Legacy.Range.size,List.range',hs,hp 0 a0 rfl,hp 1 a1 rfl,hp 2 a2 rfl,hp 3 a3 rfl,hp 4 a4 rfl,hp 5 a5 rfl,zsp]
theorem z6v(b:Bool)(a:Am6)(w:World):(Instr.checkKey b 10000 99 (ekA a)).run Tryz.prog w=.ok () w:=by
 show(Instr.checkKey b (9999+1) _ _).run _ _=_;rw [Instr.checkKey];simp only [Sem.run_bind,run_underlying zpa,Result.andThen_ok,ekA];rw [<-Array.forIn_toList];have hf:=zsh;generalize (Tryz.prog.fieldsOf 99).toList=fs at hf;obtain⟨f,rfl⟩:∃f,fs=[f]:=List.length_eq_one_iff.1 (by have:=congrArg List.length hf;simpa using this);simp only [kbq,kej,kc8,Prod.mk.injEq,and_true] at hf;obtain⟨h1,h2,h3⟩:=hf
 have hn : f.name ≠ "_" := by rw [h1]; decide
 simp only [List.forIn_cons,List.forIn_nil,if_pos hn,h2,h3,Sem.run_bind];rw [zgk a w,Result.andThen_ok,z2i b 9997,Result.andThen_ok];simp
theorem zwx(n:Nat)(x:Int):Instr.sameBits n (.int .i64 x) (.int .i64 x)=true:=by cases n<;>simp [Instr.sameBits]
theorem z2x:zkn Tryz.prog 99 ekA where
 find a es kvs w h:=by
  simp only [Instr.findKey,Sem.run_bind,run_underlying zpa,Result.andThen_ok];cases es with
  | nil =>
    cases kvs with
    | nil=>simp [Instr.findNow,zb4]
    | cons p r=>simp at h
  | cons e es =>
    have hn:Instr.findNow (.struct (Tryz.prog.fieldsOf 99)) (ekA a) (e::es) 0=none:=by simp [Instr.findNow,Instr.sameNow]
    rw [hn];exact zmz z6u a w _ _ 0 h
 chk b a w:=z6v b a w
 bits a:=by obtain⟨a0,a1,a2,a3,a4,a5⟩:=a;show Instr.sameBits (9999+1) _ _=true;simp [ekA,Instr.sameBits]
def ekI(n:Int):Value:=.int .i64 n
theorem zt9:zkn Tryz.prog 3 ekI where
 find a es kvs w h:=by have:=zwj (d:=.int .i64) (ek:=ekI) (λa b=>by simp [Instr.sameNow,ekI];rfl) a es kvs 0 h;simp [Instr.findKey,run_underlying under_int,this]
 chk b a w:=zsp b 9999 a w
 bits a:=zwx 10000 a
theorem zyw(w:World):(zeroValue 4).run Tryz.prog w=.ok (.bool false) w:=by
 have h:(Tryz.prog.info? 4).map (·.zero)=some (some (.bool false)):=by kernel_rfl
 cases hi:Tryz.prog.info? 4 with
 | none=>rw [hi] at h;cases h
 | some i =>rw [hi] at h;simp only [kcc,kap] at h;simp [zeroValue,zn1 hi,h]
theorem zu3(w:World):(zeroValue 3).run Tryz.prog w=.ok (.int .i64 0) w:=by obtain⟨i0,hi,hz0,hz1,hz2⟩:=info_parts z1e;simp [zeroValue,zn1 hi,hz0]
theorem zo8:Tryz.prog.underlying 193=some (.map 99 4):=by kernel_rfl
end Go.Ab
namespace Go.Ab
open Go Go.RowKit Go.Kp
section
variable{C:Cx}{N:Nat}{s:AS}{d:Nat}{t ty e:TypeId}{pos:String}{af:Array Edge}{g:Option (Nat×Bool)}{x y:Operand}{k:IntKind}{q:Int}{n b o len c wd:Nat}{ti:TI}
theorem z62(hd:d<N)(hx:ev s x=some (.val (.slice (some ⟨b,o,none⟩) len c)))(hy:ev s y=some (.val (.int k q)))(ht:C.esl t=some wd)(hq:q=(n:Int))(hn:n<len) :
  AOp C N ⟨some d,.indexAddr t x y,ty,pos,af,g⟩ (rds x++rds y) s [(2*d,.av (.val (.pointer (some ⟨b,o+n*wd,none⟩))))] :=
 zb2 hd hx hy λ_ρ _w e1 e2=>zdj e1 e2 (zdo ht hq hn)
theorem z60(hd:d<N)(hx:ev s x=some (.val (.slice (some ⟨b,o,none⟩) len c)))(hy:ev s y=some (.val (.int k 1)))(hu:C.P.underlying t=some (.slice e))(ht:C.ti e=some ti)(hs:ti.size=1)(hn:1<=len) :
  AOp C N ⟨some d,.slice t x (some y) none none,ty,pos,af,g⟩ (rds x++rds y) s [(2*d,.av (.val (.slice (if c=1 then some ⟨b,o,none⟩ else some ⟨b,o+1,none⟩) (len-1) (c-1))))] :=
 zb2 hd hx hy λρ w e1 e2=>by
  have hsz:=Cx.ti_size ht w;rw [hs] at hsz;have h1:(1:Int)<=(len:Int):=oc
  simp [execOp,Instr.sliceAt,Instr.slice,Instr.sliceBounds,Instr.sliceBound,asIntOf,e1,e2,run_underlying hu,hsz,h1,Addr.add_at]
theorem z53{R:List Nat}(hx:ev s x=some (.val (.slice (some ⟨b,o,none⟩) len c)))(hs:zly (rds x) R=true):AFt C ⟨some d,.slice t x (some y) none none,ty,pos,af,g⟩ R s:=λN w0 E s' a w hR hr=>by have hv:=(hr.ev (zat hR (λr h=>zkw hs h) hx)).val_eq;unfold execOp;refine zjc (zjt _ _ _ _ _ (λa he=>?_) λ_=>trivial);rw [hv] at he;cases he
end
section
variable{G:zbf}{N:Nat}{F0:FB}{s s':AS}{σ σ':FSt}{a a':Act}{w w':World}{E E':Env}
theorem FRel.blank(h:FRel G N F0 s σ a w E)(hz:a'.tmps.size=a.tmps.size)(hd:a'.defers=a.defers):FRel G N F0 [] σ a' w E:=by
 have hn:∀b,¬za1 E [] b:=λb ⟨i,hi⟩=>by cases hi
 have hr:Rel G N (reb F0.n w E []) [] a' w E:=by refine⟨hz.trans h.rel.sz,hd.trans h.rel.df,⟨h.rel.dfo.1,λD hD=>⟨λ_=>.inr hD,(h.rel.dfo.2 D hD).2⟩⟩,λt x hx=>(by cases hx),λi c hc=>(by cases hc),λi j b _ hb=>(by cases hb),λi b hb=>(by cases hb),h.rel.imm,⟨Below.refl _ _,λ_ _ _=>rfl,kak h.nle h.size⟩,λb hb _=>.inl hb,λk c hk=>(by cases hk),h.rel.glb⟩
 exact⟨hr,λb hb=>h.avoid b (hb.imp id λhb=>hb.imp (λh=>absurd h (hn b)) id),h.bd,h.gs,h.near,h.nearN,h.nle,h.size,λb hb=>let ⟨h1,h2,_,h4⟩:=h.keep b hb;⟨h1,h2,hn b,h4⟩,h.dfsN,h.immO,h.gbO,h.os,h.out⟩
theorem FRel.know(h:FRel G N F0 s σ a w E){d:Nat}(hd:d<N){x:AV}(hx:Rep E w x (a.tmps.getD d undef))(hi:x.ids=[]):FRel G N F0 ((2*d,.av x)::s) σ a w E:=by
 have h1:=h.put hd hx oV;have h2:a.put (some d) (a.tmps.getD d undef)=a:=by
  have h3:a.tmps.setIfInBounds d (a.tmps.getD d undef)=a.tmps:=by
   apply kce;intro i;by_cases e:d=i
   .subst e;by_cases hl:d<a.tmps.size
    .simp [hl]
    .simp [hl]
   .rw [kal e]
  cases a;simp only [Act.put] at h3 |-
  rw [h3]
 rw [h2] at h1;exact h1
theorem FRel.glob(h:FRel G N F0 s σ a w E){G':zbf}(hg:zb3 G' E w):FRel G' N F0 s σ a w E :=
 have hr:Rel G' N (reb F0.n w E s) s a w E:=⟨h.rel.sz,h.rel.df,h.rel.dfo,h.rel.tmp,h.rel.mem,h.rel.dis,h.rel.new,h.rel.imm,h.rel.ext,h.rel.old,h.rel.scp,hg⟩
 ⟨hr,h.avoid,h.bd,h.gs,h.near,h.nearN,h.nle,h.size,h.keep,h.dfsN,h.immO,h.gbO,h.os,h.out⟩
theorem z5l{G G':zbf}{E:Env}{w:World}(h:zb3 G' E w)(hs:∀p∈G,p∈G'):zb3 G E w:=λp hp=>h p (hs p hp)
end
namespace J
open Go.Kp (FSt jdgF WpR)
theorem zsx{C:Cx}{f:FuncId}{xs ys:List AV}{r:AV}(h:AFn C f ys r)(k:∀(I:Nat->Prop) (w:World) vs,zb3 C.G (zca I) w->yf1 (zca I) w xs vs->yf1 (zca I) w ys vs):AFn C f xs r:=by unfold AFn at *;exact⟨h.1,h.2.1,λPost imm σ w vs h1 h2 h3=>h.2.2 Post imm σ w vs h1 h2 (k _ _ _ h2 h3)⟩
theorem z3y{P:Program}{Post:Value->World->Prop}{fn:FuncId}{c:Code}{Q:Exit->FSt->Act->World->Prop}{a:Act}{w:World}{Gb Gb':Nat->Prop}{B:Nat}(h:WpR (jdgF P Post) none fn c Q ⟨Gb',B⟩ a w)(hs:∀x,Gb x->Gb' x):WpR (jdgF P Post) none fn c Q ⟨Gb,B⟩ a w :=
 λb k cs hb hk hr hc d=>(h b k cs hb hk hr hc d).weaken (kac _) hs
def AWn(C:Cx)(N:Nat)(fn:FuncId)(c:Code)(Q:Exit->AS->Prop)(s:AS):Prop :=
 ∀(Post:Value->World->Prop) (F0:FB) σ E a w (Qr:Exit->FSt->Act->World->Prop),FRel C.G N F0 s σ a w E->(∀e s' σ' a' w' E',Q e s'->FRel C.G N F0 s' σ' a' w' E'->Qr e σ' a' w')->WpR (jdgF C.P Post) none fn c Qr σ a w
section
variable{C:Cx}{N:Nat}{fn:FuncId}{c d:Code}{Q:Exit->AS->Prop}{s:AS}
theorem zg0(h:∀P:AS->Prop,(∀s',AWn C N fn d Q s'->P s')->AW C none N c (zii P Q) s):AWn C N fn (.seq c d) Q s:=λPost F0 σ E a w Qr hr hQ =>
 Kp.wpR_seq (h _ (λ_ h=>h) Post F0 σ E a w fn _ hr λe s' σ' a' w' E' h1 h2 _=>by
  cases e<;>first|exact h1 Post F0 σ' E' a' w' Qr h2 hQ|exact hQ _ s' σ' a' w' E' h1 h2)
theorem ybh{s':AS}(hs:Sub C.G N s s')(h:AWn C N fn c Q s'):AWn C N fn c Q s:=λPost F0 σ E a w Qr hr hQ=>let ⟨E',hr'⟩:=hs _ a w E hr.rel;h Post F0 σ E' a w Qr (hr.sub hr') hQ
end
theorem afn_n {C : Cx} {f : FuncId} {fn : Func} {c : Code} {args : List AV} {r : AV} {N : Nat} (hf : C.P.funcs[f]? = some fn) (hb : fn.body = some c) (hN : fn.ntmps = N) (hn : (fn.name == "runtime.NumGoroutine") = false) (hl : Nat.ble args.length N = true) (hids : zbb args = [])
  (h:∀Q:Exit->AS->Prop,(∀e s,(e=.normal\/e=.ret)/\zck C s fn.results.toList=some r->Q e s)->AWn C N f c Q (zhk args 0)) (hr:r.ids=[]):AFn C f args r:=by
 subst hN
 exact z8l hf hb hn hl hids (λPost F0 σ E a w hfr=>h _ (λ_ _ h=>h) Post F0 σ E a w _ hfr λe s' σ' a' w' E' h1 h2=>⟨h1.1,s',E',h2,h1.2⟩) hr
end J
end Go.Ab
