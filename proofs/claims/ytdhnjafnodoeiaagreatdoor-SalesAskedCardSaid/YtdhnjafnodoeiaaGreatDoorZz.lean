/- What every law of the package's statements about sales rests on: the walk of the chapter's example, beside any other goroutines. Conditions: none. -/
import Derived.Test.YtdhnjafnodoeiaaGreatDoorZy
namespace Go.Ab.J
open Go Go.Proofs Go.Kp
section
variable{G:zbf}{u:Nat→ByteArray}
attribute [local irreducible] AOp AW ADr AFn ze1 AFt AOpJ
set_option maxRecDepth 20000
set_option maxHeartbeats 8000000
theorem z8c{P G:Prop}(n:P)(h:Go.Kp.Wr P→G:=by(intro n;first|((with_reducible apply kC);first|exact gB ⟨_,z70 _ _,.mk rfl n.p⟩|exact gK n.p|exact gS n.p)|exact⟨_,z70 _ _,n.p⟩|exact sk n.p|exact ap n.p)):G:=h ⟨n⟩
theorem ydm:AFn (cx G) 179 [.sl 1 (il [20,21,21,22]),vi 0,vi 4] (.tup []):=by
 refine zag Tryz.func179 rfl Tryz.ntmps179 rfl rfl rfl ?_ rfl;refine zab fun Q hQ=>?_;(repeat' (first|refine sx ?_|refine aS fun P9 h9=>?_|refine aB fun P9 _ _ _ _=>?_|refine z8c ?_|(refine s2 ?_ ?_<;>intro h7<;>try omega)));refine zam 3 (fun i=>[(2*0,.av (.sl 1 (il [20,21,21,22]))),(2*1,.av (vi 0)),(2*2,.av (vi 4)),(2*6,.av (vi ((i+1:Nat):Int)))]) ?_ ?_
 ·exact si
 ·intro i hi;rcases(show i=0∨i=1∨i=2∨i=3 by omega) with rfl|rfl|rfl|rfl
  ·(repeat' (first|refine sx ?_|refine aS fun P9 h9=>?_|refine aB fun P9 _ _ _ _=>?_|refine z8c ?_|(refine s2 ?_ ?_<;>intro h7<;>try omega)));refine zam 0 (fun _=>[(2*0,.av (.sl 1 (il [20,21,21,22]))),(2*1,.av (vi 0)),(2*2,.av (vi 4)),(2*6,.av (vi 1)),(2*7,.av (vi 1))]) ?_ ?_
   ·exact si
   ·intro i hi;(repeat' (first|refine sx ?_|refine aS fun P9 h9=>?_|refine aB fun P9 _ _ _ _=>?_|refine z8c ?_|(refine s2 ?_ ?_<;>intro h7<;>try omega)));refine⟨by decide,?_⟩;exact si
  ·(repeat' (first|refine sx ?_|refine aS fun P9 h9=>?_|refine aB fun P9 _ _ _ _=>?_|refine z8c ?_|(refine s2 ?_ ?_<;>intro h7<;>try omega)));refine zam 0 (fun _=>[(2*0,.av (.sl 1 (il [20,21,21,22]))),(2*1,.av (vi 0)),(2*2,.av (vi 4)),(2*6,.av (vi 2)),(2*7,.av (vi 2))]) ?_ ?_
   ·exact si
   ·intro i hi;(repeat' (first|refine sx ?_|refine aS fun P9 h9=>?_|refine aB fun P9 _ _ _ _=>?_|refine z8c ?_|(refine s2 ?_ ?_<;>intro h7<;>try omega)));refine⟨by decide,?_⟩;exact si
  ·(repeat' (first|refine sx ?_|refine aS fun P9 h9=>?_|refine aB fun P9 _ _ _ _=>?_|refine z8c ?_|(refine s2 ?_ ?_<;>intro h7<;>try omega)));refine zam 0 (fun _=>[(2*0,.av (.sl 1 (il [20,21,21,22]))),(2*1,.av (vi 0)),(2*2,.av (vi 4)),(2*6,.av (vi 3)),(2*7,.av (vi 3))]) ?_ ?_
   ·exact si
   ·intro i hi;(repeat' (first|refine sx ?_|refine aS fun P9 h9=>?_|refine aB fun P9 _ _ _ _=>?_|refine z8c ?_|(refine s2 ?_ ?_<;>intro h7<;>try omega)));refine⟨by decide,?_⟩;exact si
  ·(repeat' (first|refine sx ?_|refine aS fun P9 h9=>?_|refine aB fun P9 _ _ _ _=>?_|refine z8c ?_|(refine s2 ?_ ?_<;>intro h7<;>try omega)));refine fe ?_;rfl
theorem cvo1{P G:Prop}(n:P)(h:Go.Kp.Wr P→G:=by(intro n;first|((with_reducible apply kC);first|exact gB ⟨_,ydm,.mk rfl n.p⟩|exact gK n.p|exact gS n.p)|exact⟨_,ydm,n.p⟩|exact sk n.p|exact ap n.p)):G:=h ⟨n⟩
theorem ydf(l:Int):AFn (cx G) 164 [.sl 1 (il [20,21,21,22]),vi 0,vi 4,vi l] (.tup []):=by
 refine zag Tryz.func164 rfl Tryz.ntmps164 rfl rfl rfl ?_ rfl;refine zab fun Q hQ=>?_;(repeat' (first|refine sx ?_|refine aS fun P9 h9=>?_|refine aB fun P9 _ _ _ _=>?_|refine cvo1 ?_|(refine s2 ?_ ?_<;>intro h7<;>try omega)));refine zam 0 (fun _=>[(2*0,.av (.sl 1 (il [20,21,21,22]))),(2*1,.av (vi 0)),(2*2,.av (vi 4)),(2*3,.av (vi l)),(2*8,.av (vb true)),(2*9,.av (vb true))]) ?_ ?_
 ·exact si
 ·intro i hi;(repeat' (first|refine sx ?_|refine aS fun P9 h9=>?_|refine aB fun P9 _ _ _ _=>?_|refine cvo1 ?_|(refine s2 ?_ ?_<;>intro h7<;>try omega)));refine fe ?_;rfl
theorem z01:AFn (cx G) 189 [.val (.int .u64 4)] (vi 3):=by
 refine zag Tryz.func189 rfl Tryz.ntmps189 rfl rfl rfl ?_ rfl;refine zab fun Q hQ=>?_;(repeat' (first  |refine sy ?_|refine aS fun P9 h9=>?_|refine aB fun P9 _ _ _ _=>?_|refine w0 ?_|(refine s2 ?_ ?_<;>intro h7<;>try omega)));refine g1 ?_ (by first|exact gdN rfl|exact gdT rfl rfl rfl) ⟨yb6 (by decide) rfl rfl rfl,z11 rfl rfl rfl rfl rfl⟩
 (repeat' (first  |refine sy ?_|refine aS fun P9 h9=>?_|refine aB fun P9 _ _ _ _=>?_|refine w0 ?_|(refine s2 ?_ ?_<;>intro h7<;>try omega)));refine fe ?_;rfl
theorem cvo2{P G:Prop}(n:P)(h:Go.Kp.Wr P→G:=by(intro n;first|((with_reducible apply kC);first|exact gB ⟨_,z01,.mk rfl n.p⟩|exact gK n.p|exact gS n.p)|exact⟨_,z01,n.p⟩|exact sk n.p|exact ap n.p)):G:=h ⟨n⟩
theorem ydi:AFn (cx G) 165 [.val (.int .u64 4)] (vi 3):=by refine zag Tryz.func165 rfl Tryz.ntmps165 rfl rfl rfl ?_ rfl;refine zab fun Q hQ=>?_;(repeat' (first  |refine sy ?_|refine aS fun P9 h9=>?_|refine aB fun P9 _ _ _ _=>?_|refine cvo2 ?_|(refine s2 ?_ ?_<;>intro h7<;>try omega)));refine fe ?_;rfl
theorem cvo3{P G:Prop}(n:P)(h:Go.Kp.Wr P→G:=by(intro n;first|((with_reducible apply kC);first|exact gB ⟨_,ydi,.mk rfl n.p⟩|exact gB ⟨_,ydf _,.mk rfl n.p⟩|exact gK n.p|exact gS n.p)|exact⟨_,ydi,n.p⟩|exact⟨_,ydf _,n.p⟩|exact sk n.p|exact ap n.p)):G:=h ⟨n⟩
theorem z7n:AFn (cx G) 116 [.sl 1 (il [20,21,21,22])] (.tup []):=by refine zag Tryz.func116 rfl Tryz.ntmps116 rfl rfl rfl ?_ rfl;refine zab fun Q hQ=>?_;(repeat' (first  |refine sy ?_|refine aS fun P9 h9=>?_|refine aB fun P9 _ _ _ _=>?_|refine cvo3 ?_|(refine s2 ?_ ?_<;>intro h7<;>try omega)));refine fe ?_;rfl
end
section
variable{G:zbf}{u:Nat→ByteArray}
theorem z1w : (Tryz.prog.fieldsOf 30).toList.map (fun f => (f.name, f.type, f.offset)) = [("Low", 3, 0), ("High", 3, 1)] := by kernel_rfl
theorem z32:Tryz.prog.underlying 30=some (.struct (Tryz.prog.fieldsOf 30)):=by kernel_rfl
theorem z4d:Tryz.prog.stoodInHeld 30=false:=by kernel_rfl
theorem z5j:Tryz.prog.eqGuardType Tryz.prog.depth 30=false:=by kernel_rfl
theorem z00{α:Type}:∀{l:List α},l.length=2→∃a b,l=[a,b]
 | [a,b],_=>⟨a,b,rfl⟩
theorem z4g(a b:Int)(w:World):(Op.equal 30 (.agg #[.int .i64 a,.int .i64 b]) (.agg #[.int .i64 a,.int .i64 b])).run Tryz.prog w=.ok true w:=by
 show(Op.equalIn (9999+1) _ _ _).run _ _=_;rw [run_equalIn_struct w 9999 _ _ _ z32 z4d];have hf:=z1w;generalize (Tryz.prog.fieldsOf 30).toList=fs at hf;obtain⟨f,g,rfl⟩:∃f g,fs=[f,g]:=z00 (by have:=congrArg List.length hf;simpa using this);simp only [kbq,List.map_nil,kc8,Prod.mk.injEq,and_true] at hf;obtain⟨⟨h1,h2,h3⟩,h4,h5,h6⟩:=hf;have hn : f.name ≠ "_" := by rw [h1]; decide
 have hm : g.name ≠ "_" := by rw [h4]; decide
 have p0:∀w,(part 3 #[Value.int .i64 a,Value.int .i64 b] 0).run Tryz.prog w=.ok (.int .i64 a) w:=fun w=>zdu _ _ _ rfl w;have p1:∀w,(part 3 #[Value.int .i64 a,Value.int .i64 b] 1).run Tryz.prog w=.ok (.int .i64 b) w:=fun w=>zdu _ _ _ rfl w;simp [Op.eqFields,if_pos hn,if_pos hm,h2,h3,h5,h6,Sem.run_bind,p0,p1,Result.andThen_ok,run_equalIn_int w _ _ _ _ _ _ under_int]
theorem zvm{E:Env}{w:World}{a b:Int}{v:Value}(h:Rep E w (.agg [vi a,vi b]) v):v=.agg #[.int .i64 a,.int .i64 b]:=by
 cases h with
 | agg xs vs hl h =>obtain⟨x,y,rfl⟩:∃x y,vs=[x,y]:=z00 hl.symm;have h1:=(h 0 _ x rfl rfl).val_eq;have h2:=(h 1 _ y rfl rfl).val_eq;rw [h1,h2]
theorem z27{s:AS}{N d:Nat}{x y:Operand}{t' ty:TypeId}{pos:String}{af:Array Edge}{g:Option (Nat×Bool)}{a b:Int}(hd:d<N)(hx:ev s x=some (.agg [vi a,vi b]))(hy:ev s y=some (.agg [vi a,vi b])) :
  AOp (cx G) N ⟨some d,.binOp .neq 30 x y t',ty,pos,af,g⟩ (rds x++rds y) s [(2*d,.av (vb false))] :=
 zau hd fun w0 E s' a w hR hr=>by have e1:=zvm (hr.ev (zat hR (fun _ h=>by simp [h]) hx));have e2:=zvm (hr.ev (zat hR (fun _ h=>by simp [h]) hy));refine⟨.bool false,?_,.val _,by simp [AV.ids]⟩;have hP:(cx G).P=Tryz.prog:=rfl;simp [execOp,e1,e2,eqGuard,binOp,z4g,hP]
theorem zvn(a b:Int):za3 (.agg #[.int .i64 a,.int .i64 b]):=.agg _ fun v hv=>by simp at hv;rcases hv with rfl|rfl<;>constructor
theorem z1y{s:AS}{d:Option Nat}{x y:Operand}{t' ty:TypeId}{pos:String}{af:Array Edge}{g:Option (Nat×Bool)}{a b:Int}{R:List Nat}(hx:ev s x=some (.agg [vi a,vi b]))(hy:ev s y=some (.agg [vi a,vi b]))(hs:zly (rds x++rds y) R=true) :
  AFt (cx G) ⟨d,.binOp .neq 30 x y t',ty,pos,af,g⟩ R s:=fun N w0 E s' a w hR hr=>by
 have hR:=agr hR hs
 have e1:=zvm (hr.ev ((zas fun r h=>hR r (by simp [h])).trans hx))
 have e2:=zvm (hr.ev ((zas fun r h=>hR r (by simp [h])).trans hy))
 have h1:za3 (a.eval x):=by rw [e1];exact zvn _ _
 have h2:za3 (a.eval y):=by rw [e2];exact zvn _ _
 refine zjc ?_
 rw [ft_bind];exact zoo _ _ _ _ _ _ h1 h2 (zwe _ _ _ _ h1 h2 fun _=>trivial)
end
section
variable{G:zbf}{u:Nat→ByteArray}
def exH:List zd6:=[([20,10,5,30,0,0],[false,false,false,false,false,false]),([21,10,5,30,0,0],[false,false,false,false,false,false]),([21,10,6,30,0,0],[false,false,false,false,false,false]),([22,10,6,30,0,0],[false,false,false,false,false,false])]
theorem z12:zah 1 exS exM=exH:=by decide +kernel
theorem z57:zak 1 exS exM=0:=by decide +kernel
theorem ya4:zbt 1 exS exM 0=0:=by unfold zbt;rw [z57,z12];rfl
attribute [local irreducible] AOp AW ADr AFn ze1 AFt AOpJ
set_option maxRecDepth 20000
set_option maxHeartbeats 8000000
theorem ycg{P G:Prop}(n:P)(h:Go.Kp.Wr P→G:=by(intro n;first|((with_reducible apply kC);first|exact gB ⟨_,zla _ _ _ _ hn,.mk rfl n.p⟩|exact gB ⟨_,zje _,.mk rfl n.p⟩|exact gB ⟨_,hlook,.mk rfl n.p⟩|exact gB ⟨_,z7n,.mk rfl n.p⟩|exact gK n.p|exact gS n.p)|exact⟨_,zla _ _ _ _ hn,n.p⟩|exact⟨_,zje _,n.p⟩|exact⟨_,hlook,n.p⟩|exact⟨_,z7n,n.p⟩|exact sk n.p|exact ap n.p)):G:=h ⟨n⟩
theorem zo1:AFn (cx (zch u)) 46 [bk 1 exS exM,vi 0] (.tup [.sl 1 (il [20,21,22]),vi 0]):=by
 refine zg1 Tryz.func46 rfl Tryz.ntmps46 rfl rfl rfl (fun Q hQ=>?_) rfl;have hn:exS.length≤20:=by decide
 have hlook:=zgt (u:=u) (own:=if decide (0≤(0:Int)∧(0:Int)≤((exS.length:Nat):Int)-1)=true then 0 else 6) ya4;unfold opA at hlook;rw [z12] at hlook;(repeat' (first  |((with_reducible apply kC);first|refine gM (p:=[]) (ys:=[.own 1000]) (q:=[]) zfm ?_)|refine sy ?_|refine aS fun P9 h9=>?_|refine aB fun P9 _ _ _ _=>?_|refine ycg ?_|(refine s2 ?_ ?_<;>intro h7<;>try omega)))
 refine zbx (zbd 8 1000 1 3 rfl rfl) ?_;refine zam 4 (fun i=>[(2*1,.av (vi 0)),(2*25,.av (.sl 6 (amR exS exH))),(2*26,.av (vi 4)),(2*27,.av (vi i)),(2*8,.av (.own 1000)),(2*1000+1,.buf 1 3 (il (([20,21,21,22]:List Int).take i)))]) ?_ ?_
 ·exact si
 ·intro i hi;rcases(show i=0∨i=1∨i=2∨i=3∨i=4 by omega) with rfl|rfl|rfl|rfl|rfl
  ·have h2:(il (([20,21,21,22]:List Int).take 0)).length+1≤1000000000:=by decide
   (repeat' (first  |((with_reducible apply kC);first|refine gM (p:=[]) (ys:=[.own 1000]) (q:=[]) zfm ?_)|refine sy ?_|refine aS fun P9 h9=>?_|refine aB fun P9 _ _ _ _=>?_|refine ycg ?_|(refine s2 ?_ ?_<;>intro h7<;>try omega)));refine⟨by decide,?_⟩;refine zbg (rn1 1000 37) ?_ rfl rfl;exact sr
  ·have h2:(il (([20,21,21,22]:List Int).take 1)).length+1≤1000000000:=by decide
   (repeat' (first  |((with_reducible apply kC);first|refine gM (p:=[]) (ys:=[.own 1000]) (q:=[]) zfm ?_)|refine sy ?_|refine aS fun P9 h9=>?_|refine aB fun P9 _ _ _ _=>?_|refine ycg ?_|(refine s2 ?_ ?_<;>intro h7<;>try omega)));refine⟨by decide,?_⟩;refine zbg (rn1 1000 37) ?_ rfl rfl;exact sr
  ·have h2:(il (([20,21,21,22]:List Int).take 2)).length+1≤1000000000:=by decide
   (repeat' (first  |((with_reducible apply kC);first|refine gM (p:=[]) (ys:=[.own 1000]) (q:=[]) zfm ?_)|refine sy ?_|refine aS fun P9 h9=>?_|refine aB fun P9 _ _ _ _=>?_|refine ycg ?_|(refine s2 ?_ ?_<;>intro h7<;>try omega)));refine⟨by decide,?_⟩;refine zbg (rn1 1000 37) ?_ rfl rfl;exact sr
  ·have h2:(il (([20,21,21,22]:List Int).take 3)).length+1≤1000000000:=by decide
   (repeat' (first  |((with_reducible apply kC);first|refine gM (p:=[]) (ys:=[.own 1000]) (q:=[]) zfm ?_)|refine sy ?_|refine aS fun P9 h9=>?_|refine aB fun P9 _ _ _ _=>?_|refine ycg ?_|(refine s2 ?_ ?_<;>intro h7<;>try omega)));refine⟨by decide,?_⟩;refine zbg (rn1 1000 37) ?_ rfl rfl;exact sr
  ·(repeat' (first  |((with_reducible apply kC);first|refine gM (p:=[]) (ys:=[.own 1000]) (q:=[]) zfm ?_)|refine sy ?_|refine aS fun P9 h9=>?_|refine aB fun P9 _ _ _ _=>?_|refine ycg ?_|(refine s2 ?_ ?_<;>intro h7<;>try omega)));refine hQ.go _ _ _ (z9i 4 1000 3000 rfl rfl rfl (by decide) (by decide) (by decide)) (.inr rfl) rfl
end
section
variable{G:zbf}{u:Nat→ByteArray}
theorem exv_h:zr3 1 exS exM=(4,0):=by decide +kernel
theorem yd5:zr3 1 exO exM=(4,0):=by decide +kernel
theorem exv_p:zcp 1 exS exM [21,10,5,30] [true]=(([21,10,5,30,0,0],[false,false,false,true,false,false]),0):=by decide +kernel
theorem yd4:zxt 1 exS exM [21,10,5,30] [true]=[30,10,5,0]:=by decide +kernel
theorem yd3:zxs 1 exS exM [21,10,5,30] [true]=[0,1]:=by decide +kernel
theorem exv_g:zh4 1 exS exM 3=(2,0):=by decide +kernel
theorem exv_d:zyr 1 exS exM 1 1=((25,26),0):=by decide +kernel
theorem exv_f:zge 1 exS exM 1=(1,0):=by decide +kernel
theorem exv_t:zge 1 exS exM 0=(2,0):=by decide +kernel
theorem exv_w:zjw 1 exS exM=([1],0):=by decide +kernel
theorem exv_k:zyu 1 exS exM=((0,2),0):=by decide +kernel
theorem exv_s:zkp 1 exS exM 3 false=0:=by decide +kernel
theorem yd2:zrc exS 3 false=exO:=by decide +kernel
def dd:List Nat→List Nat
 | []=>[]
 | x::xs=>bif (dd xs).any (Nat.beq x) then dd xs else x::dd xs
theorem z0t(x:Nat):∀l,x∈dd l↔x∈l
 | []=>Iff.rfl
 | y::l=>by
   have ih:=z0t x l;simp only [dd];cases h:(dd l).any (Nat.beq y) with
   | true =>obtain⟨z,hz,hy⟩:=kaz.1 h;have e:=kaj hy;subst e;simp only [cond_true,kat,ih];exact⟨.inr,fun hx=>hx.elim (fun e=>e▸(z0t y l).1 hz) id⟩
   | false=>simp only [cond_false,kat,ih]
def ancD:List Oper→List (List Nat)→List (List Nat)
 | [],acc=>acc
 | o::os,acc=>ancD os (acc++[dd (o.after.toList.flatMap fun e=>bif Region.binds .any e then e.on::acc.getD e.on [] else [])])
def zng(l l':List (List Nat)):Prop:=l.length=l'.length∧∀i x,x∈l.getD i []↔x∈l'.getD i []
theorem zng.app{l l':List (List Nat)}{a b:List Nat}(h:zng l l')(hab:∀x,x∈a↔x∈b):zng (l++[a]) (l'++[b]):=by
 refine⟨by simp [h.1],fun i x=>?_⟩;have h2:=h.2 i x;simp only [kai] at h2 ⊢;rcases kdd i l.length with hi|hi|hi
 ·rw [kam hi,kam (h.1▸hi)];exact h2
 ·rw [kao (by omega),kao (by have:=h.1;omega),hi,←h.1];simpa using hab x
 ·rw [kay (by simp;omega),kay (by have:=h.1;simp;omega)]
theorem zw3:∀(os:List Oper) {acc acc':List (List Nat)},zng acc acc'→zng (zj8 os acc) (ancD os acc')
 | [],_,_,h=>h
 | o::os,acc,acc',h=>zw3 os (h.app fun x=>by
    rw [z0t];simp only [kcq];refine exists_congr fun e=>and_congr_right fun _=>?_;cases Region.binds .any e
    ·exact Iff.rfl
    ·simp only [cond_true,kat,h.2 e.on x])
def ordW(anc:List (List Nat))(ops:List Oper)(data:List (List Nat×List Nat)):Bool :=
 Nat.beq data.length ops.length&&anc.zipIdx.all (fun p=>p.1.all fun k=>Nat.blt k p.2)&&(List.range ops.length).all fun j=>(List.range j).all fun i=>zoa anc data i j
theorem zng.get{l l':List (List Nat)}(h:zng l l'){i:Nat}{a:List Nat}(ha:l[i]?=some a):∃b,l'[i]?=some b∧∀x,x∈a↔x∈b:=by have hi:=(kab.1 ha).1;have hb:=kaa (l:=l') (i:=i) (h.1▸hi);refine⟨_,hb,fun x=>?_⟩;have:=h.2 i x;simpa [kai,ha,hb] using this
theorem zng.symm{l l':List (List Nat)}(h:zng l l'):zng l' l:=⟨h.1.symm,fun i x=>(h.2 i x).symm⟩
theorem z0c{l l':List (List Nat)}(h:zng l l'){data:List (List Nat×List Nat)}{i j:Nat}(hp:zoa l' data i j=true):zoa l data i j=true:=by
 unfold zoa at hp ⊢;cases hb:l'[j]? with
 | none=>rw [hb] at hp;split at hp<;>simp_all
 | some b =>
   obtain⟨a,ha,hab⟩:=h.symm.get hb;rw [hb] at hp;rw [ha];split at hp
   ·rename_i Ri Wi Rj Wj l0 h1 h2 h3;cases h3
    rw [h1,h2];simp only [kc1] at hp ⊢;refine hp.imp (fun hx=>?_) id;obtain⟨x,hx,he⟩:=kaz.1 hx;exact kaz.2 ⟨x,(hab x).1 hx,he⟩
   ·cases hp
theorem z94{ops:List Oper}{data:List (List Nat×List Nat)}(h:ordW (ancD ops []) ops data=true):ztw ops data=true:=by
 have hs:=zw3 ops (acc:=[]) (acc':=[]) ⟨rfl,fun _ _=>Iff.rfl⟩;show ordW (zj8 ops []) ops data=true;unfold ordW at h ⊢;simp only [ka0,kar] at h ⊢;obtain⟨⟨h1,h2⟩,h3⟩:=h;refine⟨⟨h1,fun p hp k hk=>?_⟩,fun j hj i hi=>z0c hs (h3 j hj i hi)⟩;obtain⟨a,i⟩:=p;have ha:(zj8 ops [])[i]?=some a:=by simpa using kc7.1 hp
 obtain⟨b,hb,hab⟩:=hs.get ha;exact h2 (b,i) (kc7.2 (by simpa using hb)) k ((hab k).1 hk)
theorem gED{C:Cx}{N:Nat}{ops:List Oper}{dr:Bool}{K:AS→Prop}{acc:List (List Nat×List Nat)}{s:AS}(h:K s)(ho:ordW (ancD ops []) ops acc.reverse=true):ADr C N ops dr K [] acc s:=⟨fun _=>z94 ho,h⟩
def tl:Nat→Option Code→Option Code
 | 0,o=>o
 | n+1,some (.seq _ e)=>tl n (some e)
 | _,_=>none
def Go5(u:Nat→ByteArray)(k:Nat)(Q:Exit→AS→Prop)(s:AS):Prop:=∀c,tl k Tryz.f10.body=some c→AW (cx (zch u)) none 198 c Q s
theorem zr6{k:Nat}{Q:Exit→AS→Prop}{s:AS}{c:Code}(e:tl k Tryz.f10.body=some c)(h:AW (cx (zch u)) none 198 c Q s):Go5 u k Q s:=fun _c' e'=>kaw (e.symm.trans e')▸h
theorem zpz{k:Nat}{Q:Exit→AS→Prop}{s s':AS}{c:Code}(h:Go5 u k Q s')(e:tl k Tryz.f10.body=some c)(hs:Sub (zch u) 198 s s'):AW (cx (zch u)) none 198 c Q s:=zbx hs (h c e)
attribute [local irreducible] AOp AW ADr AFn ze1 AFt AOpJ
attribute [local irreducible] Go5
set_option maxRecDepth 20000
set_option maxHeartbeats 16000000
abbrev sS3:AS:=[(2*1,.av (.ptr 1 0)),(2*1+1,.cells 25 [vi 1,.sl 7 (exS.map Slip.row),.sl 5 (exM.map SumR.row)]),(2*2,.av (vi 4)),(2*3,.av (vi 0))]
abbrev sS5:AS:=[(2*1,.av (.ptr 1 0)),(2*1+1,.cells 25 [vi 1,.sl 7 (exS.map Slip.row),.sl 5 (exM.map SumR.row)]),(2*2,.av (vi 4)),(2*3,.av (vi 0)),(2*4,.av (.sl 1 (il [30,10,5,0]))),(2*5,.av (.sl 1 (il [0,1]))),(2*6,.av (vi 0)),(2*7,.av (.sl 1 (il [20,21,22]))),(2*8,.av (vi 0))]
abbrev sS9:AS:=[(2*1,.av (.ptr 1 0)),(2*1+1,.cells 25 [vi 1,.sl 7 (exS.map Slip.row),.sl 5 (exM.map SumR.row)]),(2*2,.av (vi 4)),(2*3,.av (vi 0)),(2*4,.av (.sl 1 (il [30,10,5,0]))),(2*5,.av (.sl 1 (il [0,1]))),(2*6,.av (vi 0)),(2*7,.av (.sl 1 (il [20,21,22]))),(2*8,.av (vi 0)),(2*9,.av (vi 2)),(2*10,.av (vi 0)),(2*11,.av (.ptr 11 0)),(2*11+1,.cells 30 [vi 25,vi 26]),(2*12,.av (vi 0)),(2*13,.av (vi 1)),(2*14,.av (vi 0)),(2*15,.av (vi 2)),(2*16,.av (vi 0))]
abbrev sS11:AS:=[(2*1,.av (.ptr 1 0)),(2*1+1,.cells 25 [vi 1,.sl 7 (exS.map Slip.row),.sl 5 (exM.map SumR.row)]),(2*2,.av (vi 4)),(2*3,.av (vi 0)),(2*4,.av (.sl 1 (il [30,10,5,0]))),(2*5,.av (.sl 1 (il [0,1]))),(2*6,.av (vi 0)),(2*7,.av (.sl 1 (il [20,21,22]))),(2*8,.av (vi 0)),(2*9,.av (vi 2)),(2*10,.av (vi 0)),(2*11,.av (.ptr 11 0)),(2*11+1,.cells 30 [vi 25,vi 26]),(2*12,.av (vi 0)),(2*13,.av (vi 1)),(2*14,.av (vi 0)),(2*15,.av (vi 2)),(2*16,.av (vi 0)),(2*17,.av (.sl 1 (il [1]))),(2*18,.av (vi 0)),(2*19,.av (vi 0)),(2*20,.av (vi 2)),(2*21,.av (vi 0))]
abbrev sS13:AS:=[(2*2,.av (vi 4)),(2*3,.av (vi 0)),(2*4,.av (.sl 1 (il [30,10,5,0]))),(2*5,.av (.sl 1 (il [0,1]))),(2*6,.av (vi 0)),(2*7,.av (.sl 1 (il [20,21,22]))),(2*8,.av (vi 0)),(2*9,.av (vi 2)),(2*10,.av (vi 0)),(2*11,.av (.ptr 11 0)),(2*11+1,.cells 30 [vi 25,vi 26]),(2*12,.av (vi 0)),(2*13,.av (vi 1)),(2*14,.av (vi 0)),(2*15,.av (vi 2)),(2*16,.av (vi 0)),(2*17,.av (.sl 1 (il [1]))),(2*18,.av (vi 0)),(2*19,.av (vi 0)),(2*20,.av (vi 2)),(2*21,.av (vi 0)),(2*23,.av (vi 7)),(2*24,.av (.ptr 24 0)),(2*24+1,.cells 25 [vi 1,.sl 7 (exO.map Slip.row),.sl 5 (exM.map SumR.row)]),(2*25,.av (vi 0))]
abbrev sS15:AS:=[(2*2,.av (vi 4)),(2*3,.av (vi 0)),(2*4,.av (.sl 1 (il [30,10,5,0]))),(2*5,.av (.sl 1 (il [0,1]))),(2*6,.av (vi 0)),(2*7,.av (.sl 1 (il [20,21,22]))),(2*8,.av (vi 0)),(2*9,.av (vi 2)),(2*10,.av (vi 0)),(2*11,.av (.ptr 11 0)),(2*11+1,.cells 30 [vi 25,vi 26]),(2*12,.av (vi 0)),(2*13,.av (vi 1)),(2*14,.av (vi 0)),(2*15,.av (vi 2)),(2*16,.av (vi 0)),(2*17,.av (.sl 1 (il [1]))),(2*18,.av (vi 0)),(2*19,.av (vi 0)),(2*20,.av (vi 2)),(2*21,.av (vi 0)),(2*23,.av (vi 7)),(2*25,.av (vi 0)),(2*26,.av (vi 4)),(2*27,.av (vi 0)),(2*28,.av (.ptr 28 0)),(2*28+1,.cells 25 [vi 1,.sl 7 (exC.map Slip.row),.sl 5 (exM.map SumR.row)]),(2*29,.av (vi 0))]
abbrev sS16:AS:=[(2*2,.av (vi 4)),(2*4,.av (.sl 1 (il [30,10,5,0]))),(2*5,.av (.sl 1 (il [0,1]))),(2*7,.av (.sl 1 (il [20,21,22]))),(2*9,.av (vi 2)),(2*11,.av (.ptr 11 0)),(2*11+1,.cells 30 [vi 25,vi 26]),(2*13,.av (vi 1)),(2*15,.av (vi 2)),(2*17,.av (.sl 1 (il [1]))),(2*19,.av (vi 0)),(2*20,.av (vi 2)),(2*26,.av (vi 4)),(2*28,.av (.ptr 28 0)),(2*28+1,.cells 25 [vi 1,.sl 7 (exC.map Slip.row),.sl 5 (exM.map SumR.row)])]
abbrev sS17:AS:=[(2*4,.av (.sl 1 (il [30,10,5,0]))),(2*5,.av (.sl 1 (il [0,1]))),(2*7,.av (.sl 1 (il [20,21,22]))),(2*17,.av (.sl 1 (il [1])))]
theorem cvx0{P G:Prop}(n:P)(h:Go.Kp.Wr P→G:=by(intro n;first|((with_reducible apply kC);first|exact gB ⟨_,hp,.mk rfl n.p⟩|exact gB ⟨_,zo1,.mk rfl n.p⟩|exact gK n.p|exact gS n.p)|exact⟨_,hp,n.p⟩|exact⟨_,zo1,n.p⟩|exact sk n.p|exact ap n.p)):G:=h ⟨n⟩
theorem seg3{Q:Exit→AS→Prop}(h:Go5 u 5 Q sS5):Go5 u 3 Q sS3:=by
 have hp:AFn (cx (zch u)) 45 [bk 1 exS exM,.sl 1 (il [21,10,5,30]),.sl 1 (bl [true])] (.tup [.sl 1 (il [30,10,5,0]),.sl 1 (il [0,1]),vi 0]):=by have h:=z9z (u:=u) 1 exS exM [21,10,5,30] [true] (by decide) (by decide) (by decide);rw [exv_p,yd4,yd3] at h;exact h
 refine zr6 rfl ?_;(repeat' (first|exact zpz h rfl (by exact si) |refine sy ?_|refine aS fun P9 h9=>?_|refine aB fun P9 _ _ _ _=>?_|refine cvx0 ?_|(refine s2 ?_ ?_<;>intro h7<;>try omega)))
theorem cvx1{P G:Prop}(n:P)(h:Go.Kp.Wr P→G:=by(intro n;first|((with_reducible apply kC);first|exact gB ⟨_,hg,.mk rfl n.p⟩|exact gB ⟨_,hd,.mk rfl n.p⟩|exact gB ⟨_,hf,.mk rfl n.p⟩|exact gB ⟨_,ht,.mk rfl n.p⟩|exact gK n.p|exact gS n.p)|exact⟨_,hg,n.p⟩|exact⟨_,hd,n.p⟩|exact⟨_,hf,n.p⟩|exact⟨_,ht,n.p⟩|exact sk n.p|exact ap n.p)):G:=h ⟨n⟩
theorem seg5{Q:Exit→AS→Prop}(h:Go5 u 9 Q sS9):Go5 u 5 Q sS5:=by
 have hg:AFn (cx (zch u)) 47 [bk 1 exS exM,vi 3] (.tup [vi 2,vi 0]):=by have h:=z4j (u:=u) 1 exS exM 3 (by decide) (by decide);rw [exv_g] at h;exact h
 have hd:AFn (cx (zch u)) 11 [bk 1 exS exM,vi 1,vi 1] (.tup [.agg [vi 25,vi 26],vi 0]):=by have h:=sum_a (u:=u) 1 exS exM 1 1 (by decide) (by decide);rw [exv_d] at h;exact h
 have hf:AFn (cx (zch u)) 13 [bk 1 exS exM,vi 1] (.tup [vi 1,vi 0]):=by have h:=zuj (u:=u) 1 exS exM 1 (by decide) (by decide);rw [exv_f] at h;exact h
 have ht:AFn (cx (zch u)) 13 [bk 1 exS exM,vi 0] (.tup [vi 2,vi 0]):=by have h:=zuj (u:=u) 1 exS exM 0 (by decide) (by decide);rw [exv_t] at h;exact h
 refine zr6 rfl ?_;(repeat' (first|exact zpz h rfl (by exact si) |refine sy ?_|refine aS fun P9 h9=>?_|refine aB fun P9 _ _ _ _=>?_|refine cvx1 ?_|(refine s2 ?_ ?_<;>intro h7<;>try omega)))
theorem cvx2{P G:Prop}(n:P)(h:Go.Kp.Wr P→G:=by(intro n;first|((with_reducible apply kC);first|exact gB ⟨_,hw,.mk rfl n.p⟩|exact gB ⟨_,hk,.mk rfl n.p⟩|exact gK n.p|exact gS n.p)|exact⟨_,hw,n.p⟩|exact⟨_,hk,n.p⟩|exact sk n.p|exact ap n.p)):G:=h ⟨n⟩
theorem seg9{Q:Exit→AS→Prop}(h:Go5 u 11 Q sS11):Go5 u 9 Q sS9:=by
 have hw:AFn (cx (zch u)) 15 [bk 1 exS exM] (.tup [.sl 1 (il [1]),vi 0]):=by have h:=zwk (u:=u) 1 exS exM (by decide) (by decide);rw [exv_w,if_neg (by decide)] at h;exact h
 have hk:AFn (cx (zch u)) 18 [bk 1 exS exM] (.tup [vi 0,vi 2,vi 0]):=by have h:=ask_a (u:=u) 1 exS exM (by decide) (by decide);rw [exv_k] at h;exact h
 refine zr6 rfl ?_;(repeat' (first|exact zpz h rfl (by exact si) |refine sy ?_|refine aS fun P9 h9=>?_|refine aB fun P9 _ _ _ _=>?_|refine cvx2 ?_|(refine s2 ?_ ?_<;>intro h7<;>try omega)))
theorem cvx3{P G:Prop}(n:P)(h:Go.Kp.Wr P→G:=by(intro n;first|((with_reducible apply kC);first|exact gB ⟨_,zsn,.mk rfl n.p⟩|exact gB ⟨_,hs,.mk rfl n.p⟩|exact gK n.p|exact gS n.p)|exact⟨_,zsn,n.p⟩|exact⟨_,hs,n.p⟩|exact sk n.p|exact ap n.p)):G:=h ⟨n⟩
theorem seg11{Q:Exit→AS→Prop}(h:Go5 u 13 Q sS13):Go5 u 11 Q sS11:=by
 have hs:AFn (cx (zch u)) 35 [bk 1 exS exM,vi 3,vb false] (.tup [bk 1 exO exM,vi 0]):=by have h:=z9o (u:=u) 1 exS exM 3 false (by decide) (by decide);rw [zil,exv_s,yd2,if_pos rfl] at h;exact h
 refine zr6 rfl ?_;(repeat' (first|exact zpz h rfl (by exact si) |refine sy ?_|refine aS fun P9 h9=>?_|refine aB fun P9 _ _ _ _=>?_|refine cvx3 ?_|(refine s2 ?_ ?_<;>intro h7<;>try omega)))
theorem cvx4{P G:Prop}(n:P)(h:Go.Kp.Wr P→G:=by(intro n;first|((with_reducible apply kC);first|exact gB ⟨_,hho,.mk rfl n.p⟩|exact gB ⟨_,zso,.mk rfl n.p⟩|exact gK n.p|exact gS n.p)|exact⟨_,hho,n.p⟩|exact⟨_,zso,n.p⟩|exact sk n.p|exact ap n.p)):G:=h ⟨n⟩
theorem seg13{Q:Exit→AS→Prop}(h:Go5 u 15 Q sS15):Go5 u 13 Q sS13:=by
 have hho:AFn (cx (zch u)) 24 [bk 1 exO exM] (.tup [vi 4,vi 0]):=by have h:=zkg (u:=u) 1 exO exM (by decide) (by decide);rw [yd5] at h;exact h
 refine zr6 rfl ?_;(repeat' (first|exact zpz h rfl (by exact si) |refine sy ?_|refine aS fun P9 h9=>?_|refine aB fun P9 _ _ _ _=>?_|refine cvx4 ?_|(refine s2 ?_ ?_<;>intro h7<;>try omega)))
theorem seg15{Q:Exit→AS→Prop}(h:Go5 u 16 Q sS16):Go5 u 15 Q sS15:=by
 have q0:(!decide ((0:Int)=0))=false:=rfl;have q1:(!decide ((1:Int)=1))=false:=rfl;have q2:(!decide ((2:Int)=2))=false:=rfl;have q4:(!decide ((4:Int)=4))=false:=rfl;have q7:(!decide ((7:Int)=7))=false:=rfl;refine zr6 rfl ?_;(repeat' (first|exact zpz h rfl (by exact si) |refine sy ?_|refine aS fun P9 h9=>?_|refine aB fun P9 _ _ _ _=>?_|refine w0 ?_|(refine s2 ?_ ?_<;>intro h7<;>try omega)))
theorem cvx5{P G:Prop}(n:P)(h:Go.Kp.Wr P→G:=by(intro n;first|((with_reducible apply kC);first|exact gB ⟨_,to_a _ _,.mk rfl n.p⟩|exact gK n.p|exact gS n.p)|exact⟨_,to_a _ _,n.p⟩|exact sk n.p|exact ap n.p)):G:=h ⟨n⟩
theorem seg16{Q:Exit→AS→Prop}(h:Go5 u 17 Q sS17):Go5 u 16 Q sS16:=by
 have q0:(!decide ((0:Int)=0))=false:=rfl;have q1:(!decide ((1:Int)=1))=false:=rfl;have q2:(!decide ((2:Int)=2))=false:=rfl;have q4:(!decide ((4:Int)=4))=false:=rfl;have q7:(!decide ((7:Int)=7))=false:=rfl;refine zr6 rfl ?_
 (repeat' (first|exact zpz h rfl (by exact si)|(with_reducible refine gED ?_ (by kernel_rfl))|(refine g1 ?_ (by first|exact gdN rfl|exact gdT rfl rfl rfl) ⟨z27 (by decide) rfl rfl,z1y rfl rfl rfl⟩)|refine sk ?_|refine sy ?_|refine aS fun P9 h9=>?_|refine aB fun P9 _ _ _ _=>?_|refine cvx5 ?_|(refine s2 ?_ ?_<;>intro h7<;>try omega)))
theorem cvx6{P G:Prop}(n:P)(h:Go.Kp.Wr P→G:=by(intro n;first|((with_reducible apply kC);first|exact gB ⟨_,hss,.mk rfl n.p⟩|exact gK n.p|exact gS n.p)|exact⟨_,hss,n.p⟩|exact sk n.p|exact ap n.p)):G:=h ⟨n⟩
theorem seg17{Q:Exit→AS→Prop}(hQ:EndF (cx (zch u)) 198 Tryz.f10.results.toList (vb true) Q):Go5 u 17 Q sS17:=by
 have hss:=ztm (G:=zch u) [[30,10,5,0],[0,1],[20,21,22],[1]] [[30,10,5,0],[0,1],[20,21,22],[1]] (by decide) (by decide) (by decide) (by decide);refine zr6 rfl ?_;(repeat' (first  |refine sy ?_|refine aS fun P9 h9=>?_|refine aB fun P9 _ _ _ _=>?_|refine cvx6 ?_|(refine s2 ?_ ?_<;>intro h7<;>try omega)));exact hQ.go _ _ _ zcz (.inr rfl) rfl
theorem cvx7{P G:Prop}(n:P)(h:Go.Kp.Wr P→G:=by(intro n;first|((with_reducible apply kC);first|exact gB ⟨_,zsk,.mk rfl n.p⟩|exact gB ⟨_,hh,.mk rfl n.p⟩|exact gK n.p|exact gS n.p)|exact⟨_,zsk,n.p⟩|exact⟨_,hh,n.p⟩|exact sk n.p|exact ap n.p)):G:=h ⟨n⟩
theorem summed_a:AFn (cx (zch u)) 10 [] (vb true):=by
 refine zg1 Tryz.func10 rfl Tryz.ntmps10 rfl rfl rfl (fun Q hQ=>?_) rfl;have hh:AFn (cx (zch u)) 24 [bk 1 exS exM] (.tup [vi 4,vi 0]):=by have h:=zkg (u:=u) 1 exS exM (by decide) (by decide);rw [exv_h] at h;exact h
 (repeat' (first|exact zpz (seg3 (seg5 (seg9 (seg11 (seg13 (seg15 (seg16 (seg17 hQ)))))))) rfl (by exact si) |refine sy ?_|refine aS fun P9 h9=>?_|refine aB fun P9 _ _ _ _=>?_|refine cvx7 ?_|(refine s2 ?_ ?_<;>intro h7<;>try omega)))
end
end Go.Ab.J
