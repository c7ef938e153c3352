/- For every book, kind, number and index the function SalesSums answers true, whatever other goroutines do, and leaves its arguments as they were. Conditions: those of the given row. -/
import Derived.Test.YtoipgpgoaegniaaGreatDoorZv
import Derived.Test.YtoipgpgoaegniaaGreatDoorZz
namespace Go.Ab.J
open Go Go.Proofs Go.Kp
section
variable{G:zbf}{u:Nat→ByteArray}
def zxt(most:Int)(ss:List Slip)(ms:List SumR)(ws:List Int)(sg:List Bool):List Int:=if (zcp most ss ms ws sg).2≠0 then [] else (zc0 ss (zcp most ss ms ws sg).1).take ss.length
def zxs(most:Int)(ss:List Slip)(ms:List SumR)(ws:List Int)(sg:List Bool):List Int:=if (zcp most ss ms ws sg).2≠0 then [] else zan ss ms (zc0 ss (zcp most ss ms ws sg).1)
theorem ybs(l:List Int)(hl:l.length=6){n:Nat}(hn:n≤6):(((amL l).drop 0).take n).map (fun z=>[z])=il (l.take n):=by obtain⟨x0,x1,x2,x3,x4,x5,rfl⟩:=z5b l hl;rcases(show n=0∨n=1∨n=2∨n=3∨n=4∨n=5∨n=6 by omega) with rfl|rfl|rfl|rfl|rfl|rfl|rfl<;>rfl
theorem z91{ws:List Int}(_hl:ws.length≤6)(h:ws.any z0e=false):zhn (zvy ws):=by
 intro i;unfold zvy;rw [kai];rcases kae i ws.length with hi|hi
 ·rw [kam hi,kaa hi];have:=List.any_eq_false.1 h ws[i] (kbf hi);simp [z0e] at this;simpa using this
 ·rw [kao hi,List.getElem?_replicate];split<;>simp
theorem z4z{most:Int}{ss:List Slip}{ms:List SumR}{ws:List Int}{sg:List Bool}(h:(zcp most ss ms ws sg).2=0):Good most ss ms∧zhn (zc0 ss (zcp most ss ms ws sg).1)∧ws.length=ss.length∧ws.any z0e=false∧sg.length=(zae ss ss.length).length∧zcp most ss ms ws sg=((zvy ws,sgU (zae ss ss.length) sg (zae ss ss.length).length),0):=by
 unfold zcp at h ⊢;by_cases h1:zak most ss ms=0
 ·have hg:=(za2 most ss ms).1 h1;rw [if_neg (by simp [h1])] at h ⊢;by_cases h2:ws.length=ss.length
  ·rw [if_neg (by simp [h2])] at h ⊢;by_cases h3:ws.any z0e=true
   ·rw [if_pos h3] at h;cases h
   ·rw [if_neg h3] at h ⊢;by_cases h4:sg.length=(zae ss ss.length).length
    ·rw [if_neg (by simp [h4])];have h3':ws.any z0e=false:=by simpa using h3
     exact⟨hg,zh6 _ _ _ (z91 (by have:=hg.nss;omega) h3') _,h2,h3',h4,rfl⟩
    ·rw [if_pos h4] at h;cases h
  ·rw [if_pos h2] at h;cases h
 ·rw [if_pos h1] at h;exact absurd h h1
attribute [local irreducible] AOp AW ADr AFn ze1 AFt AOpJ
set_option maxRecDepth 20000
set_option maxHeartbeats 8000000
theorem cvs0{P G:Prop}(n:P)(h:Go.Kp.Wr P→G:=by(intro n;first|((with_reducible apply kC);first|exact gB ⟨_,zsm,.mk rfl n.p⟩|exact gB ⟨_,z7s most _ ms ws sg hn hm hwl,.mk rfl n.p⟩|exact gB ⟨_,zx3 most _ ms _ hg.nss hfor,.mk rfl n.p⟩|exact gB ⟨_,zgh most _ ms _ hg.nss hg.nms hkind hab,.mk rfl n.p⟩|exact gK n.p|exact gS n.p)|exact⟨_,zsm,n.p⟩|exact⟨_,z7s most _ ms ws sg hn hm hwl,n.p⟩|exact⟨_,zx3 most _ ms _ hg.nss hfor,n.p⟩|exact⟨_,zgh most _ ms _ hg.nss hg.nms hkind hab,n.p⟩|exact sk n.p|exact ap n.p)):G:=h ⟨n⟩
theorem z9z(most:Int)(ss:List Slip)(ms:List SumR)(ws:List Int)(sg:List Bool)(hn:ss.length≤20)(hm:ms.length≤20)(hwl:ws.length≤100000) :
  AFn (cx (zch u)) 17 [bk most ss ms,.sl 1 (il ws),.sl 1 (bl sg)] (.tup [.sl 1 (il (zxt most ss ms ws sg)),.sl 1 (il (zxs most ss ms ws sg)),vi (zcp most ss ms ws sg).2]):=by
 refine zg1 Tryz.func17 rfl Tryz.ntmps17 rfl rfl rfl (fun Q hQ=>?_) rfl
 by_cases hz:(zcp most ss ms ws sg).2=0
 ·have hdz:decide ((zcp most ss ms ws sg).2=0)=true:=by simpa using hz
  obtain⟨hg,hab,hwn,_⟩:=z4z hz;have hfor:∀(i:Nat) (s:Slip),ss[i]?=some s→s.kind=5→0≤s.for_∧s.for_<(i:Int):=fun i s hs h5=>⟨((hg.slip i s hs).for5 h5).1,((hg.slip i s hs).for5 h5).2.1⟩;have hkind:∀m∈ms,0≤m.kind∧m.kind<5:=fun m hm=>by have:=(hg.sum m hm).1;omega
  have h6:(ss.map Slip.row).length≤6:=by simpa using hg.nss
  have ht:=ybs (zc0 ss (zcp most ss ms ws sg).1) (zfy _ _ _ _) h6;have hN:zxt most ss ms ws sg=(zc0 ss (zcp most ss ms ws sg).1).take (ss.map Slip.row).length:=by rw [zxt,if_neg (by simp [hz]),ka6]
  have hW:zxs most ss ms ws sg=zan ss ms (zc0 ss (zcp most ss ms ws sg).1):=by rw [zxs,if_neg (by simp [hz])]
  rw [hN,hW,hz,←ht] at hQ;rcases kbj ss.length with h0|h0
  ·have he:=kbs.1 h0;subst he
   (repeat' (first|refine zbx (zcj 12 12 rfl rfl rfl (by decide)) ?_ |((with_reducible apply kC);first|refine gM (p:=[]) (ys:=[.sl 1 ((((amL (zc0 ss (zcp most ss ms ws sg).1)).drop 0).take (ss.map Slip.row).length).map fun z=>[z])]) (q:=[]) (zqe _ hcl hcn) ?_)|refine sy ?_|refine aS fun P9 h9=>?_|refine aB fun P9 _ _ _ _=>?_|refine cvs0 ?_|(refine s2 ?_ ?_<;>intro h7<;>try omega)))
   refine hQ.go _ _ _ zcz (.inr rfl) rfl
  ·have hcl:Nat.ble 1 ((((amL (zc0 ss (zcp most ss ms ws sg).1)).drop 0).take (ss.map Slip.row).length).map fun z=>[z]).length=true:=by rw [ht];refine kcu ?_;simp [zc0,zfy];omega
   have hcn:((((amL (zc0 ss (zcp most ss ms ws sg).1)).drop 0).take (ss.map Slip.row).length).map fun z=>[z]).length≤100000:=by rw [ht];simp;omega
   (repeat' (first|refine zbx (zcj 12 12 rfl rfl rfl (by decide)) ?_ |((with_reducible apply kC);first|refine gM (p:=[]) (ys:=[.sl 1 ((((amL (zc0 ss (zcp most ss ms ws sg).1)).drop 0).take (ss.map Slip.row).length).map fun z=>[z])]) (q:=[]) (zqe _ hcl hcn) ?_)|refine sy ?_|refine aS fun P9 h9=>?_|refine aB fun P9 _ _ _ _=>?_|refine cvs0 ?_|(refine s2 ?_ ?_<;>intro h7<;>try omega)))
   exact hQ.go _ _ _ zcz (.inr rfl) rfl
 ·have hdz:decide ((zcp most ss ms ws sg).2=0)=false:=by simpa using hz
  have hN:zxt most ss ms ws sg=[]:=by rw [zxt,if_pos hz]
  have hW:zxs most ss ms ws sg=[]:=by rw [zxs,if_pos hz]
  rw [hN,hW] at hQ;(repeat' (first|refine zbx (zcj 12 12 rfl rfl rfl (by decide)) ?_ |((with_reducible apply kC);first|refine gM (p:=[]) (ys:=[.sl 1 ((((amL (zc0 ss (zcp most ss ms ws sg).1)).drop 0).take (ss.map Slip.row).length).map fun z=>[z])]) (q:=[]) (zqe _ hcl hcn) ?_)|refine sy ?_|refine aS fun P9 h9=>?_|refine aB fun P9 _ _ _ _=>?_|refine cvs0 ?_|(refine s2 ?_ ?_<;>intro h7<;>try omega)))
  exact hQ.go _ _ _ ((zbd 6 3000 1 3 rfl rfl).trans (zbd 7 3001 1 3 rfl rfl)) (.inr rfl) rfl
end
section
variable{G:zbf}{u:Nat→ByteArray}
attribute [local irreducible] AOp AW ADr AFn ze1 AFt AOpJ
set_option maxRecDepth 20000
set_option maxHeartbeats 8000000
theorem zfm:zu1 (cx G) 71 [.own 1000] [(1000,.buf 1 3 (il [20,21,21,22]))] (.osl 1 1000 0 3) [(1000,.buf 1 3 (il [20,21,22,0]))] []:=by
 refine zeu [(1000,0)] Tryz.func71 rfl Tryz.ntmps71 rfl rfl rfl fun Q hQ=>?_;(repeat' (first  |refine sy ?_|refine aS fun P9 h9=>?_|refine aB fun P9 _ _ _ _=>?_|refine w0 ?_|(refine s2 ?_ ?_<;>intro h7<;>try omega)));refine zam 1 (fun i=>[(2*0,.av (.own 1000)),(2*3,.av (vi ((i+1:Nat):Int))),(2*1000+1,.buf 1 3 (il [20,21,21,22]))]) ?_ ?_
 ·exact si
 ·intro i hi;rcases(show i=0∨i=1 by omega) with rfl|rfl
  ·(repeat' (first  |refine sy ?_|refine aS fun P9 h9=>?_|refine aB fun P9 _ _ _ _=>?_|refine w0 ?_|(refine s2 ?_ ?_<;>intro h7<;>try omega)));refine⟨by decide,?_⟩;exact si
  ·(repeat' (first  |refine sy ?_|refine aS fun P9 h9=>?_|refine aB fun P9 _ _ _ _=>?_|refine w0 ?_|(refine s2 ?_ ?_<;>intro h7<;>try omega)));refine zam 1 (fun i=>[(2*0,.av (.own 1000)),(2*4,.av (.osl 1 1000 2 2)),(2*3,.av (vi ((i+2:Nat):Int))),(2*5,.av (vi ((i+1:Nat):Int))),(2*1000+1,.buf 1 3 (il (if i=0 then [20,21,21,22] else [20,21,22,22])))]) ?_ ?_
   ·exact si
   ·intro i hi;rcases(show i=0∨i=1 by omega) with rfl|rfl
    ·(repeat' (first  |refine sy ?_|refine aS fun P9 h9=>?_|refine aB fun P9 _ _ _ _=>?_|refine w0 ?_|(refine s2 ?_ ?_<;>intro h7<;>try omega)));refine⟨by decide,?_⟩;exact si
    ·(repeat' (first  |refine sy ?_|refine aS fun P9 h9=>?_|refine aB fun P9 _ _ _ _=>?_|refine w0 ?_|(refine s2 ?_ ?_<;>intro h7<;>try omega)));exact hQ.go _ _ _ zcz (.inr rfl) rfl ⟨rfl,trivial⟩ fun p hp=>by
      cases hp with
      | head=>rfl
      | tail _ h=>cases h
end
section
variable{G:zbf}{u:Nat→ByteArray}
attribute [local irreducible] AOp AW ADr AFn ze1 AFt AOpJ
set_option maxRecDepth 20000
set_option maxHeartbeats 8000000
theorem z8c{P G:Prop}(n:P)(h:Go.Kp.Wr P→G:=by(intro n;first|((with_reducible apply kC);first|exact gB ⟨_,z70 _ _,.mk rfl n.p⟩|exact gK n.p|exact gS n.p)|exact⟨_,z70 _ _,n.p⟩|exact sk n.p|exact ap n.p)):G:=h ⟨n⟩
theorem ydm:AFn (cx G) 142 [.sl 1 (il [20,21,21,22]),vi 0,vi 4] (.tup []):=by
 refine zag Tryz.func142 rfl Tryz.ntmps142 rfl rfl rfl ?_ rfl;refine zab fun Q hQ=>?_;(repeat' (first|refine sx ?_|refine aS fun P9 h9=>?_|refine aB fun P9 _ _ _ _=>?_|refine z8c ?_|(refine s2 ?_ ?_<;>intro h7<;>try omega)));refine zam 3 (fun i=>[(2*0,.av (.sl 1 (il [20,21,21,22]))),(2*1,.av (vi 0)),(2*2,.av (vi 4)),(2*6,.av (vi ((i+1:Nat):Int)))]) ?_ ?_
 ·exact si
 ·intro i hi;rcases(show i=0∨i=1∨i=2∨i=3 by omega) with rfl|rfl|rfl|rfl
  ·(repeat' (first|refine sx ?_|refine aS fun P9 h9=>?_|refine aB fun P9 _ _ _ _=>?_|refine z8c ?_|(refine s2 ?_ ?_<;>intro h7<;>try omega)));refine zam 0 (fun _=>[(2*0,.av (.sl 1 (il [20,21,21,22]))),(2*1,.av (vi 0)),(2*2,.av (vi 4)),(2*6,.av (vi 1)),(2*7,.av (vi 1))]) ?_ ?_
   ·exact si
   ·intro i hi;(repeat' (first|refine sx ?_|refine aS fun P9 h9=>?_|refine aB fun P9 _ _ _ _=>?_|refine z8c ?_|(refine s2 ?_ ?_<;>intro h7<;>try omega)));refine⟨by decide,?_⟩;exact si
  ·(repeat' (first|refine sx ?_|refine aS fun P9 h9=>?_|refine aB fun P9 _ _ _ _=>?_|refine z8c ?_|(refine s2 ?_ ?_<;>intro h7<;>try omega)));refine zam 0 (fun _=>[(2*0,.av (.sl 1 (il [20,21,21,22]))),(2*1,.av (vi 0)),(2*2,.av (vi 4)),(2*6,.av (vi 2)),(2*7,.av (vi 2))]) ?_ ?_
   ·exact si
   ·intro i hi;(repeat' (first|refine sx ?_|refine aS fun P9 h9=>?_|refine aB fun P9 _ _ _ _=>?_|refine z8c ?_|(refine s2 ?_ ?_<;>intro h7<;>try omega)));refine⟨by decide,?_⟩;exact si
  ·(repeat' (first|refine sx ?_|refine aS fun P9 h9=>?_|refine aB fun P9 _ _ _ _=>?_|refine z8c ?_|(refine s2 ?_ ?_<;>intro h7<;>try omega)));refine zam 0 (fun _=>[(2*0,.av (.sl 1 (il [20,21,21,22]))),(2*1,.av (vi 0)),(2*2,.av (vi 4)),(2*6,.av (vi 3)),(2*7,.av (vi 3))]) ?_ ?_
   ·exact si
   ·intro i hi;(repeat' (first|refine sx ?_|refine aS fun P9 h9=>?_|refine aB fun P9 _ _ _ _=>?_|refine z8c ?_|(refine s2 ?_ ?_<;>intro h7<;>try omega)));refine⟨by decide,?_⟩;exact si
  ·(repeat' (first|refine sx ?_|refine aS fun P9 h9=>?_|refine aB fun P9 _ _ _ _=>?_|refine z8c ?_|(refine s2 ?_ ?_<;>intro h7<;>try omega)));refine fe ?_;rfl
theorem cvo1{P G:Prop}(n:P)(h:Go.Kp.Wr P→G:=by(intro n;first|((with_reducible apply kC);first|exact gB ⟨_,ydm,.mk rfl n.p⟩|exact gK n.p|exact gS n.p)|exact⟨_,ydm,n.p⟩|exact sk n.p|exact ap n.p)):G:=h ⟨n⟩
theorem ydf(l:Int):AFn (cx G) 123 [.sl 1 (il [20,21,21,22]),vi 0,vi 4,vi l] (.tup []):=by
 refine zag Tryz.func123 rfl Tryz.ntmps123 rfl rfl rfl ?_ rfl;refine zab fun Q hQ=>?_;(repeat' (first|refine sx ?_|refine aS fun P9 h9=>?_|refine aB fun P9 _ _ _ _=>?_|refine cvo1 ?_|(refine s2 ?_ ?_<;>intro h7<;>try omega)));refine zam 0 (fun _=>[(2*0,.av (.sl 1 (il [20,21,21,22]))),(2*1,.av (vi 0)),(2*2,.av (vi 4)),(2*3,.av (vi l)),(2*8,.av (vb true)),(2*9,.av (vb true))]) ?_ ?_
 ·exact si
 ·intro i hi;(repeat' (first|refine sx ?_|refine aS fun P9 h9=>?_|refine aB fun P9 _ _ _ _=>?_|refine cvo1 ?_|(refine s2 ?_ ?_<;>intro h7<;>try omega)));refine fe ?_;rfl
theorem z01:AFn (cx G) 152 [.val (.int .u64 4)] (vi 3):=by
 refine zag Tryz.func152 rfl Tryz.ntmps152 rfl rfl rfl ?_ rfl;refine zab fun Q hQ=>?_;(repeat' (first  |refine sy ?_|refine aS fun P9 h9=>?_|refine aB fun P9 _ _ _ _=>?_|refine w0 ?_|(refine s2 ?_ ?_<;>intro h7<;>try omega)));refine g1 ?_ (by first|exact gdN rfl|exact gdT rfl rfl rfl) ⟨yb6 (by decide) rfl rfl rfl,z11 rfl rfl rfl rfl rfl⟩
 (repeat' (first  |refine sy ?_|refine aS fun P9 h9=>?_|refine aB fun P9 _ _ _ _=>?_|refine w0 ?_|(refine s2 ?_ ?_<;>intro h7<;>try omega)));refine fe ?_;rfl
theorem cvo2{P G:Prop}(n:P)(h:Go.Kp.Wr P→G:=by(intro n;first|((with_reducible apply kC);first|exact gB ⟨_,z01,.mk rfl n.p⟩|exact gK n.p|exact gS n.p)|exact⟨_,z01,n.p⟩|exact sk n.p|exact ap n.p)):G:=h ⟨n⟩
theorem ydi:AFn (cx G) 124 [.val (.int .u64 4)] (vi 3):=by refine zag Tryz.func124 rfl Tryz.ntmps124 rfl rfl rfl ?_ rfl;refine zab fun Q hQ=>?_;(repeat' (first  |refine sy ?_|refine aS fun P9 h9=>?_|refine aB fun P9 _ _ _ _=>?_|refine cvo2 ?_|(refine s2 ?_ ?_<;>intro h7<;>try omega)));refine fe ?_;rfl
theorem cvo3{P G:Prop}(n:P)(h:Go.Kp.Wr P→G:=by(intro n;first|((with_reducible apply kC);first|exact gB ⟨_,ydi,.mk rfl n.p⟩|exact gB ⟨_,ydf _,.mk rfl n.p⟩|exact gK n.p|exact gS n.p)|exact⟨_,ydi,n.p⟩|exact⟨_,ydf _,n.p⟩|exact sk n.p|exact ap n.p)):G:=h ⟨n⟩
theorem z7n:AFn (cx G) 70 [.sl 1 (il [20,21,21,22])] (.tup []):=by refine zag Tryz.func70 rfl Tryz.ntmps70 rfl rfl rfl ?_ rfl;refine zab fun Q hQ=>?_;(repeat' (first  |refine sy ?_|refine aS fun P9 h9=>?_|refine aB fun P9 _ _ _ _=>?_|refine cvo3 ?_|(refine s2 ?_ ?_<;>intro h7<;>try omega)));refine fe ?_;rfl
end
section
variable{G:zbf}{u:Nat→ByteArray}
theorem z1w : (Tryz.prog.fieldsOf 30).toList.map (fun f => (f.name, f.type, f.offset)) = [("Low", 3, 0), ("High", 3, 1)] := by kernel_rfl
theorem z32:Tryz.prog.underlying 30=some (.struct (Tryz.prog.fieldsOf 30)):=by kernel_rfl
theorem z4d:Tryz.prog.stoodInHeld 30=false:=by kernel_rfl
theorem z5j:Tryz.prog.eqGuardType Tryz.prog.depth 30=false:=by kernel_rfl
theorem z00{α:Type}:∀{l:List α},l.length=2→∃a b,l=[a,b]
 | [a,b],_=>⟨a,b,rfl⟩
theorem z4g(a b:Int)(w:World):(Op.equal 30 (.agg #[.int .i64 a,.int .i64 b]) (.agg #[.int .i64 a,.int .i64 b])).run Tryz.prog w=.ok true w:=by
 show(Op.equalIn (9999+1) _ _ _).run _ _=_;rw [run_equalIn_struct w 9999 _ _ _ z32 z4d];have hf:=z1w;generalize (Tryz.prog.fieldsOf 30).toList=fs at hf;obtain⟨f,g,rfl⟩:∃f g,fs=[f,g]:=z00 (by have:=congrArg List.length hf;simpa using this);simp only [kbq,List.map_nil,kc8,Prod.mk.injEq,and_true] at hf;obtain⟨⟨h1,h2,h3⟩,h4,h5,h6⟩:=hf;have hn : f.name ≠ "_" := by rw [h1]; decide
 have hm : g.name ≠ "_" := by rw [h4]; decide
 have p0:∀w,(part 3 #[Value.int .i64 a,Value.int .i64 b] 0).run Tryz.prog w=.ok (.int .i64 a) w:=fun w=>zdu _ _ _ rfl w;have p1:∀w,(part 3 #[Value.int .i64 a,Value.int .i64 b] 1).run Tryz.prog w=.ok (.int .i64 b) w:=fun w=>zdu _ _ _ rfl w;simp [Op.eqFields,if_pos hn,if_pos hm,h2,h3,h5,h6,Sem.run_bind,p0,p1,Result.andThen_ok,run_equalIn_int w _ _ _ _ _ _ under_int]
theorem zvm{E:Env}{w:World}{a b:Int}{v:Value}(h:Rep E w (.agg [vi a,vi b]) v):v=.agg #[.int .i64 a,.int .i64 b]:=by
 cases h with
 | agg xs vs hl h =>obtain⟨x,y,rfl⟩:∃x y,vs=[x,y]:=z00 hl.symm;have h1:=(h 0 _ x rfl rfl).val_eq;have h2:=(h 1 _ y rfl rfl).val_eq;rw [h1,h2]
theorem z27{s:AS}{N d:Nat}{x y:Operand}{t' ty:TypeId}{pos:String}{af:Array Edge}{g:Option (Nat×Bool)}{a b:Int}(hd:d<N)(hx:ev s x=some (.agg [vi a,vi b]))(hy:ev s y=some (.agg [vi a,vi b])) :
  AOp (cx G) N ⟨some d,.binOp .neq 30 x y t',ty,pos,af,g⟩ (rds x++rds y) s [(2*d,.av (vb false))] :=
 zau hd fun w0 E s' a w hR hr=>by have e1:=zvm (hr.ev (zat hR (fun _ h=>by simp [h]) hx));have e2:=zvm (hr.ev (zat hR (fun _ h=>by simp [h]) hy));refine⟨.bool false,?_,.val _,by simp [AV.ids]⟩;have hP:(cx G).P=Tryz.prog:=rfl;simp [execOp,e1,e2,eqGuard,binOp,z4g,hP]
theorem zvn(a b:Int):za3 (.agg #[.int .i64 a,.int .i64 b]):=.agg _ fun v hv=>by simp at hv;rcases hv with rfl|rfl<;>constructor
theorem z1y{s:AS}{d:Option Nat}{x y:Operand}{t' ty:TypeId}{pos:String}{af:Array Edge}{g:Option (Nat×Bool)}{a b:Int}{R:List Nat}(hx:ev s x=some (.agg [vi a,vi b]))(hy:ev s y=some (.agg [vi a,vi b]))(hs:zly (rds x++rds y) R=true) :
  AFt (cx G) ⟨d,.binOp .neq 30 x y t',ty,pos,af,g⟩ R s:=fun N w0 E s' a w hR hr=>by
 have hR:=agr hR hs
 have e1:=zvm (hr.ev ((zas fun r h=>hR r (by simp [h])).trans hx))
 have e2:=zvm (hr.ev ((zas fun r h=>hR r (by simp [h])).trans hy))
 have h1:za3 (a.eval x):=by rw [e1];exact zvn _ _
 have h2:za3 (a.eval y):=by rw [e2];exact zvn _ _
 refine zjc ?_
 rw [ft_bind];exact zoo _ _ _ _ _ _ h1 h2 (zwe _ _ _ _ h1 h2 fun _=>trivial)
attribute [local irreducible] AOp AW ADr AFn ze1 AFt AOpJ
set_option maxRecDepth 20000
set_option maxHeartbeats 8000000
theorem yd8{P G:Prop}(n:P)(h:Go.Kp.Wr P→G:=by(intro n;first|((with_reducible apply kC);first|exact gB ⟨_,z1f _ _ _,.mk rfl n.p⟩|exact gB ⟨_,hsum,.mk rfl n.p⟩|exact gB ⟨_,hca,.mk rfl n.p⟩|exact gB ⟨_,hcb,.mk rfl n.p⟩|exact gB ⟨_,hcc,.mk rfl n.p⟩|exact gB ⟨_,hcd,.mk rfl n.p⟩|exact gB ⟨_,hfa,.mk rfl n.p⟩|exact gB ⟨_,hfb,.mk rfl n.p⟩|exact gB ⟨_,hsame,.mk rfl n.p⟩|exact gB ⟨_,hce,.mk rfl n.p⟩|exact gB ⟨_,hcf,.mk rfl n.p⟩|exact gK n.p|exact gS n.p)|exact⟨_,z1f _ _ _,n.p⟩|exact⟨_,hsum,n.p⟩|exact⟨_,hca,n.p⟩|exact⟨_,hcb,n.p⟩|exact⟨_,hcc,n.p⟩|exact⟨_,hcd,n.p⟩|exact⟨_,hfa,n.p⟩|exact⟨_,hfb,n.p⟩|exact⟨_,hsame,n.p⟩|exact⟨_,hce,n.p⟩|exact⟨_,hcf,n.p⟩|exact sk n.p|exact ap n.p)):G:=h ⟨n⟩
theorem law_a(most:Int)(ss:List Slip)(ms:List SumR)(k a sum:Int)(hsum:AFn (cx (zch u)) 5 [] (vb true))
  (hS:ss.length≤20→ms.length≤20→zyr most ss ms k a=znn most ss ms k a) (hF:ss.length≤20→ms.length≤20→zge most ss ms sum=zf7 most ss ms sum)
  (hW:ss.length≤20→ms.length≤20→zjw most ss ms=zcf most ss ms) (hA:ss.length≤20→ms.length≤20→zyu most ss ms=znr most ss ms)
  (hW0:(zjw most ss ms).2≠0↔zcf most ss ms=([],9)∨zak most ss ms≠0) (hWl:(zjw most ss ms).1.length≤100000) :
  Top (cx (zch u)) 3 [bk most ss ms,vi k,vi a,vi sum] (vb true):=by
 refine yc1 Tryz.func3 (by kernel_rfl) rfl Tryz.ntmps3 rfl rfl ?_ rfl
 refine zab fun Q hQ=>?_
 by_cases hg:20<ss.length∨20<ms.length
 ·have hd1:decide (20<ss.length∨20<ms.length)=true:=by simpa using hg
  (repeat' (first|refine sx ?_|refine aS fun P9 h9=>?_|refine aB fun P9 _ _ _ _=>?_|refine yd8 ?_|(refine s2 ?_ ?_<;>intro h7<;>try omega)));refine fe ?_;rfl
 have hd1:decide (20<ss.length∨20<ms.length)=false:=by simpa using hg
 have hn:ss.length≤20:=by omega
 have hm:ms.length≤20:=by omega
 have hca:=yc7 (u:=u) most ss ms k a hn hm
 have hcb:=z4a (G:=zch u) most ss ms k a hn hm
 have hcc:=zuj (u:=u) most ss ms sum hn hm
 have hcd:=zyf (G:=zch u) most ss ms sum hn hm
 have hce:=yev (u:=u) most ss ms hn hm
 have hcf:=z6t (G:=zch u) most ss ms hn hm
 have hfa:=zwk (u:=u) most ss ms hn hm
 have hfb:=zui (G:=zch u) most ss ms hn hm
 rw [←hS hn hm] at hcb
 rw [←hF hn hm] at hcd
 rw [←hA hn hm] at hcf
 generalize zyr most ss ms k a=z1 at hca hcb
 generalize zge most ss ms sum=z2 at hcc hcd
 generalize zyu most ss ms=z3 at hce hcf
 have hb1:(!decide (z1.2=z1.2))=false:=by simp
 have hb2:(!decide (z2.1=z2.1))=false:=by simp
 have hb3:(!decide (z2.2=z2.2))=false:=by simp
 have hb4:decide (z3.1.1=z3.1.1)=true:=by simp
 have hb5:decide (z3.1.2=z3.1.2)=true:=by simp
 have hb6:decide (z3.2=z3.2)=true:=by simp
 by_cases hz:(zjw most ss ms).2≠0
 ·rw [if_pos hz] at hfa;rw [if_pos (hW0.1 hz),←hW hn hm] at hfb;generalize (zjw most ss ms).2=z4 at hfa hfb;have hb7:(!decide (z4=z4))=false:=by simp
  have hsame:AFn (cx (zch u)) 12 [.val (.slice none 0 0),.val (.slice none 0 0)] (vb true):=zsx (zg5 [] [] (by simp) (by simp)) fun I w vs _ h=>by obtain⟨v1,vs1,rfl,h1,h2⟩:=h.inv;obtain⟨v2,vs2,rfl,h3,h4⟩:=h2.inv;have e1:=h1.val_eq;have e2:=h3.val_eq;subst e1 e2;exact(h4.cons (.nil 1)).cons (.nil 1)
  (repeat' (first|refine sx ?_|refine aS fun P9 h9=>?_|refine aB fun P9 _ _ _ _=>?_|refine yd8 ?_|(refine s2 ?_ ?_<;>intro h7<;>try omega)));refine g1 ?_ (by first|exact gdN rfl|exact gdT rfl rfl rfl) ⟨z27 (by decide) rfl rfl,z1y rfl rfl rfl⟩;(repeat' (first|refine sx ?_|refine aS fun P9 h9=>?_|refine aB fun P9 _ _ _ _=>?_|refine yd8 ?_|(refine s2 ?_ ?_<;>intro h7<;>try omega)));refine fe ?_;rfl
 ·rw [if_neg hz] at hfa;rw [if_neg (fun h=>hz (hW0.2 h)),←hW hn hm] at hfb;have hsame:=zg5 (G:=zch u) (zjw most ss ms).1 (zjw most ss ms).1 hWl hWl;rw [decide_eq_true rfl] at hsame;generalize (zjw most ss ms).1=z4 at hfa hfb hsame;have hb7:(!decide ((0:Int)=0))=false:=by simp
  (repeat' (first|refine sx ?_|refine aS fun P9 h9=>?_|refine aB fun P9 _ _ _ _=>?_|refine yd8 ?_|(refine s2 ?_ ?_<;>intro h7<;>try omega)));refine g1 ?_ (by first|exact gdN rfl|exact gdT rfl rfl rfl) ⟨z27 (by decide) rfl rfl,z1y rfl rfl rfl⟩;(repeat' (first|refine sx ?_|refine aS fun P9 h9=>?_|refine aB fun P9 _ _ _ _=>?_|refine yd8 ?_|(refine s2 ?_ ?_<;>intro h7<;>try omega)));refine fe ?_;rfl
end
def sgR(ss:List Slip)(sg:List Bool)(n:Nat):List Bool:=(zae ss n).map fun j=>sg.getD j.toNat false
def toR(ss:List Slip)(p:zd6):zfo:=(p.1.take ss.length,sgR ss p.2 ss.length)
theorem z1u(ss:List Slip)(n:Nat):∀j∈zae ss n,0≤j∧j<(n:Int):=fun j hj=>by simp only [zae,kav,kbw,ka3] at hj;obtain⟨k,⟨hk,_⟩,rfl⟩:=hj;omega
theorem zuh(ss:List Slip)(n:Nat):zae ss (n+1)=zae ss n++(if (ss.getD n d7).kind=5 then [(n:Int)] else []):=zbn ss n
theorem zzu(ss:List Slip){sg sg':List Bool}(n:Nat)(h:∀j,j<n→sg.getD j false=sg'.getD j false):sgR ss sg n=sgR ss sg' n :=
 kcn fun j hj=>by have:=z1u ss n j hj;exact h _ (by omega)
theorem zd1(ss:List Slip)(sg:List Bool)(n:Nat):sgR ss sg (n+1)=sgR ss sg n++(if (ss.getD n d7).kind=5 then [sg.getD n false] else []):=by unfold sgR;rw [zuh,kbt];congr 1;split<;>simp
theorem zew{α:Type}(l:List α)(i j:Nat)(x d:α)(hi:i<l.length):(l.set i x).getD j d=if j=i then x else l.getD j d:=by
 simp only [kai,kdc];by_cases h:i=j
 ·subst h;simp [hi]
 ·rw [if_neg h,if_neg (Ne.symm h)]
theorem z1i(ss:List Slip)(h6:ss.length≤6)(hsg:∀i,i<ss.length→(ss.getD i d7).kind≠5→(ss.getD i d7).signed=0) :
  ∀(m i:Nat) (pw:List Int) (sg:List Bool) (wr:List Int) (sr:List Bool),i+m=ss.length→pw.length=6→sg.length=6→wr=pw.take i→sr=sgR ss sg i→zhu ss m i wr sr=(zks ss m i pw sg).map (toR ss)
 | 0,i,pw,sg,wr,sr,him,hp,hs,hw,hr=>by
   have:i=ss.length:=by omega
   subst this;simp [zhu,zks,toR,hw,hr]
 | m+1,i,pw,sg,wr,sr,him,hp,hs,hw,hr=>by
   have hi6:i<6:=by omega
   simp only [zhu,zks,List.map_flatMap];congr 1;funext n;have hpw:(pw.set i n).length=6:=by simpa using hp
   have htk:wr++[n]=(pw.set i n).take (i+1):=by
    rw [hw,List.take_succ_eq_append_getElem (by omega)];congr 1
    ·rw [List.take_set];rw [List.set_eq_of_length_le (by rw [kcj];omega)]
    ·simp
   have key:∀b,sgR ss (sg.set i b) (i+1)=sr++(if (ss.getD i d7).kind=5 then [b] else []):=fun b=>by
    rw [zd1,hr];congr 1
    ·exact zzu ss i fun j hj=>by rw [zew _ _ _ _ _ (by omega),if_neg (by omega)]
    ·rw [zew _ _ _ _ _ (by omega),if_pos rfl]
   have ih:=fun b=>z1i ss h6 hsg m (i+1) (pw.set i n) (sg.set i b) (wr++[n]) _ (by omega) hpw (by simpa using hs) htk (key b).symm;by_cases h5:(ss.getD i d7).kind=5
   ·simp only [h5,if_true] at ih;simp only [h5,ne_eq,not_true_eq_false,if_false,true_and,kbt];congr 1
    ·split
     ·exact ih false
     ·rfl
    ·split
     ·exact ih true
     ·rfl
   ·have h0:=hsg i (by omega) h5;simp only [h5,if_false,kda] at ih;rw [if_pos h5,if_pos (show(ss.getD i d7).signed≠1 by rw [h0];decide),if_neg (fun h=>h5 h.1),kda];exact ih false
theorem yap{most:Int}{ss:List Slip}{ms:List SumR}(hg:Good most ss ms):∀i,i<ss.length→(ss.getD i d7).kind≠5→(ss.getD i d7).signed=0:=fun i hi h5=>by
 have hs:ss[i]?=some (ss.getD i d7):=by rw [kai,kaa hi];rfl
 exact(hg.slip i _ hs).sg0 h5
theorem zuv{most:Int}{ss:List Slip}{ms:List SumR}(hg:Good most ss ms):zds ss=(zgf ss).map (toR ss) :=
 z1i ss hg.nss (yap hg) ss.length 0 _ _ _ _ (by omega) rfl rfl rfl rfl
theorem z7v(ss:List Slip)(h6:ss.length≤6)(hf:∀i,i<ss.length→(ss.getD i d7).kind=5→0≤(ss.getD i d7).for_∧(ss.getD i d7).for_<(i:Int))(pw:List Int)(sg:List Bool)(hp:pw.length=6) :
  ∀n,n≤ss.length→∀j,(zhq ss pw sg n).getD j 0=(zdv ss (pw.take ss.length) (sgR ss sg ss.length) n).1.getD j 0
 | 0,_,j=>by
   simp only [zhq,zdv];rcases kae j 6 with h|h
   ·have:j=0∨j=1∨j=2∨j=3∨j=4∨j=5:=by omega
    rcases this with rfl|rfl|rfl|rfl|rfl|rfl<;>rfl
   ·simp [kay (show([0,0,0,0,0,0]:List Int).length≤j from h)]
 | n+1,hn,j=>by
   have ih:=z7v ss h6 hf pw sg hp n (by omega);have hl:=zfy ss pw sg n;have hr:=zk3 ss (pw.take ss.length) (sgR ss sg ss.length) n;have hx:=zpp ss (pw.take ss.length) (sgR ss sg ss.length) n;have hw:(pw.take ss.length).getD n 0=pw.getD n 0:=by simp only [kai,ka5,if_pos (show n<ss.length by omega)]
   have hz:(zhq ss pw sg n).getD n 0=0:=by rw [ih,kai,kay (by omega)];rfl
   have happ:∀(x:Int) (j:Nat),((zdv ss (pw.take ss.length) (sgR ss sg ss.length) n).1++[x]).getD j 0=if j=n then x else (zdv ss (pw.take ss.length) (sgR ss sg ss.length) n).1.getD j 0:=fun x j=>by
    simp only [kai];rcases kdd j n with h|h|h
    ·rw [kam (by omega),if_neg (by omega)]
    ·subst h;rw [kao (by omega),if_pos rfl,hr];simp
    ·rw [kao (by omega),if_neg (by omega),kay (by simp;omega),kay (by omega)]
   simp only [zhq,zdv];by_cases h5:(ss.getD n d7).kind=5
   ·obtain⟨f0,f1⟩:=hf n (by omega) h5
    have hsgn:(sgR ss sg ss.length).getD (zae ss n).length false=sg.getD n false:=by
     have:∀k,n+1+k≤ss.length→(sgR ss sg (n+1+k)).getD (zae ss n).length false=sg.getD n false:=fun k=>by
      induction k with
      | zero =>intro _;rw [kb1,zd1,if_pos h5,kai,kao (by simp [sgR])];simp [sgR]
      | succ k ihk =>
        intro hk;rw [←ihk (by omega),show n+1+(k+1)=(n+1+k)+1 by omega,zd1];have hlt:(zae ss n).length<(sgR ss sg (n+1+k)).length:=by
         clear ihk hk;induction k with
         | zero=>rw [kb1,zd1,if_pos h5];simp [sgR]
         | succ k ihk=>rw [show n+1+(k+1)=(n+1+k)+1 by omega,zd1];simp;omega
        simp only [kai];rw [kam hlt]
     have:=this (ss.length-(n+1)) (by omega);rwa [show n+1+(ss.length-(n+1))=ss.length by omega] at this
    simp only [h5,if_true,hx,hsgn,hw];have hf6:(ss.getD n d7).for_.toNat<(zhq ss pw sg n).length:=by rw [hl];omega
    split
    ·rw [zew _ _ _ _ _ hf6,zew _ _ _ _ _ (by rw [kcz,kbx,hr];simp only [List.length_singleton];omega),zew _ _ _ _ _ (by rw [kbx,hr];simp),happ];by_cases e1:j=(ss.getD n d7).for_.toNat
     ·simp [e1]
     ·simp only [e1,if_false];by_cases e2:j=n
      ·rw [if_pos e2,e2];exact hz
      ·simp only [e2,if_false];exact ih j
    ·rw [zew _ _ _ _ _ (by simp [hr]),happ];by_cases e2:j=n
     ·rw [if_pos e2,e2];exact hz
     ·simp only [e2,if_false];exact ih j
   ·simp only [h5,if_false,hw];rw [zew _ _ _ _ _ (by rw [hl];omega),happ];by_cases e2:j=n
    ·simp [e2]
    ·simp only [e2,if_false];exact ih j
theorem zld{most:Int}{ss:List Slip}{ms:List SumR}(hg:Good most ss ms){i:Nat}(hi:i<ss.length):zne ss i (ss.getD i d7) :=
 hg.slip i _ (by rw [kai,kaa hi];rfl)
theorem zmb{most:Int}{ss:List Slip}{ms:List SumR}(hg:Good most ss ms)(p:zd6)(hp:p.1.length=6)(j:Nat):(zc0 ss p).getD j 0=(zc7 ss (toR ss p)).getD j 0 :=
 z7v ss hg.nss (fun _i hi h5=>let h:=(zld hg hi).for5 h5;⟨h.1,h.2.1⟩) p.1 p.2 hp ss.length (kac _) j
theorem zlx(ss:List Slip){am am':List Int}(h:∀j,am.getD j 0=am'.getD j 0)(k:Nat)(a:Int)(n:Nat):zbo ss am k a n=zbo ss am' k a n:=by unfold zbo;congr 1;exact kcn fun i _=>by rw [h]
theorem zhx(ss:List Slip)(ms:List SumR){am am':List Int}(h:∀j,am.getD j 0=am'.getD j 0):zan ss ms am=zan ss ms am':=by unfold zan zao;congr 1;congr 1;funext j;simp only [zd3,zlx ss h]
theorem zup{most:Int}{ss:List Slip}{ms:List SumR}(hg:Good most ss ms){am am':List Int}(h:∀j,am.getD j 0=am'.getD j 0):∀n,n≤ss.length→∀j,(zcx ss am n).getD j 0=zc6 ss am' j n
 | 0,_,j=>by
   simp only [zcx,zc6];rcases kae j 6 with h|h
   ·have:j=0∨j=1∨j=2∨j=3∨j=4∨j=5:=by omega
    rcases this with rfl|rfl|rfl|rfl|rfl|rfl<;>rfl
   ·rw [kai,kay (show([0,0,0,0,0,0]:List Int).length≤j from h)];rfl
 | n+1,hn,j=>by
   have ih:=zup hg h n (by omega);have hl:=zm6 ss am n;have h6:=hg.nss;simp only [zcx,zc6];by_cases h3:(ss.getD n d7).kind=3
   ·obtain⟨f0,f1,_⟩:=(zld hg (show n<ss.length by omega)).for3 h3;have hf6:(ss.getD n d7).for_.toNat<(zcx ss am n).length:=by rw [hl];omega
    simp only [h3,if_true,true_and];rw [zew _ _ _ _ _ hf6];by_cases e:j=(ss.getD n d7).for_.toNat
    ·rw [if_pos e,if_pos (by omega),e,ih,h]
    ·rw [if_neg e,if_neg (by omega),ih]
   ·simp only [h3,if_false,false_and,ih]
theorem zr2{most:Int}{ss:List Slip}{ms:List SumR}(hg:Good most ss ms){am am':List Int}(h:∀j,am.getD j 0=am'.getD j 0)(hl:am'.length=ss.length)(h0:∀j,0≤am.getD j 0):zdg ss am=zf9 ss am':=by
 have h6:=hg.nss;rw [Bool.eq_iff_iff];simp only [zdg,zf9,kar,ka3,decide_eq_true_eq,hl];constructor
 ·intro hh j hj;have:=hh j (by omega);rwa [zup hg h ss.length (kac _) j,h j] at this
 ·intro hh j hj;rw [zup hg h ss.length (kac _) j];rcases kae j ss.length with hlt|hge
  ·have:=hh j hlt;rwa [←h j] at this
  ·have hz:∀n,n≤ss.length→zc6 ss am' j n=0:=fun n=>by
    induction n with
    | zero=>intro _;rfl
    | succ n ih =>
      intro hn;simp only [zc6];split
      ·rename_i h3;obtain⟨f0,f1,_⟩:=(zld hg (show n<ss.length by omega)).for3 h3.1;have:=h3.2;omega
      ·exact ih (by omega)
   rw [hz _ (kac _)];exact h0 j
def yfk(ss:List Slip)(i:Nat)(pw:List Int)(sg:List Bool):Prop :=
 ∀j,j<i→((ss.getD j d7).lo≤pw.getD j 0∧pw.getD j 0≤(ss.getD j d7).hi)∧((ss.getD j d7).kind=5→((ss.getD j d7).signed=1→sg.getD j false=true)∧((ss.getD j d7).signed=2→sg.getD j false=false))
theorem zp0(ss:List Slip)(h6:ss.length≤6):∀(m i:Nat) (pw:List Int) (sg:List Bool),i+m=ss.length→pw.length=6→sg.length=6→yfk ss i pw sg→∀p∈zks ss m i pw sg,yfk ss ss.length p.1 p.2
 | 0,i,pw,sg,him,hp,hs,hf,p,hm=>by
   simp only [zks,kcg] at hm;subst hm;have:i=ss.length:=by omega
   subst this;exact hf
 | m+1,i,pw,sg,him,hp,hs,hf,p,hm=>by
   simp only [zks,kcq,kax] at hm;obtain⟨n,hn,hm⟩:=hm;have hn':(ss.getD i d7).lo≤n∧n≤(ss.getD i d7).hi:=by change n∈zbr (ss.getD i d7).lo (ss.getD i d7).hi at hn;simp only [zbr,kav,ka3] at hn;obtain⟨j,hj,rfl⟩:=hn;omega
   have step:∀b,((ss.getD i d7).kind=5→((ss.getD i d7).signed=1→b=true)∧((ss.getD i d7).signed=2→b=false))→yfk ss (i+1) (pw.set i n) (sg.set i b):=fun b hb j hj=>by
    rw [zew _ _ _ _ _ (by omega),zew _ _ _ _ _ (by omega)];by_cases e:j=i
    ·subst e;simp only [if_true];exact⟨hn',hb⟩
    ·simp only [e,if_false];exact hf j (by omega)
   rcases hm with hm|hm
   ·split at hm
    ·rename_i h1;exact zp0 ss h6 m (i+1) _ _ (by omega) (by simpa using hp) (by simpa using hs) (step false fun _=>⟨fun h=>absurd h h1,fun _=>rfl⟩) p hm
    ·cases hm
   ·split at hm
    ·rename_i h1;exact zp0 ss h6 m (i+1) _ _ (by omega) (by simpa using hp) (by simpa using hs) (step true fun _=>⟨fun _=>rfl,fun h=>absurd h h1.2⟩) p hm
    ·cases hm
theorem z6x{most:Int}{ss:List Slip}{ms:List SumR}(hg:Good most ss ms):∀p∈zgf ss,yfk ss ss.length p.1 p.2 :=
 zp0 ss hg.nss ss.length 0 _ _ (by omega) rfl rfl fun j hj=>by omega
theorem yda(ss:List Slip)(sg:List Bool){n:Nat}(h5:(ss.getD n d7).kind=5):∀k,(sgR ss sg (n+1+k)).getD (zae ss n).length false=sg.getD n false:=fun k=>by
 have hlt:∀k,(zae ss n).length<(sgR ss sg (n+1+k)).length:=fun k=>by
  induction k with
  | zero=>rw [kb1,zd1,if_pos h5];simp [sgR]
  | succ k ihk=>rw [show n+1+(k+1)=(n+1+k)+1 by omega,zd1];simp;omega
 induction k with
 | zero =>rw [kb1,zd1,if_pos h5,kai,kao (by simp [sgR])];simp [sgR]
 | succ k ihk =>rw [←ihk,show n+1+(k+1)=(n+1+k)+1 by omega,zd1];simp only [kai];rw [kam (hlt k)]
theorem z4y{most:Int}{ss:List Slip}{ms:List SumR}(hg:Good most ss ms)(p:zd6)(hp:yfk ss ss.length p.1 p.2):zxr ss (toR ss p).1 (toR ss p).2=true:=by
 simp only [zxr,kar,ka3];intro j hj;obtain⟨h1,h2⟩:=hp j hj;have hw:(toR ss p).1.getD j 0=p.1.getD j 0:=by simp only [toR,kai,ka5,if_pos hj]
 have hk:=zld hg hj;simp only [zrm,hw,ka0,kc1,decide_eq_true_eq,kb7,decide_eq_false_iff_not,beq_iff_eq];refine⟨h1,?_⟩;by_cases h5:(ss.getD j d7).kind=5
 ·have hs:(toR ss p).2.getD (zae ss j).length false=p.2.getD j false:=by
    have:=yda ss p.2 h5 (ss.length-(j+1));rw [show j+1+(ss.length-(j+1))=ss.length by omega] at this;exact this
  rw [hs];have:=hk.sg;obtain⟨h3,h4⟩:=h2 h5;by_cases e0:(ss.getD j d7).signed=0
  ·exact .inl (.inr e0)
  ·right;by_cases e1:(ss.getD j d7).signed=1
   ·rw [h3 e1,decide_eq_true e1]
   ·rw [h4 (by omega),decide_eq_false e1]
 ·exact .inl (.inl h5)
theorem ag_eq{most:Int}{ss:List Slip}{ms:List SumR}(hg:Good most ss ms)(hlo:∀s∈ss,0≤s.lo∧s.hi≤999)(p:zd6)(hm:p∈zgf ss):zdk most ss ms (toR ss p)=agP most ss ms p:=by
 obtain⟨⟨hp,_⟩,hab⟩:=zna ss hlo p hm;have hnow:=zmb hg p hp;have hok:=zh6 ss p.1 p.2 hab ss.length;unfold zdk agP zeh;rw [z4y hg p (z6x hg p hm),←zhx ss ms hnow,←zr2 hg hnow (zb6 _ _) (fun j=>(hok j).1),zwh];simp only [Bool.true_and];cases zdg ss (zc0 ss p)<;>simp [Bool.and_comm]
theorem z1g{most:Int}{ss:List Slip}{ms:List SumR}(hg:Good most ss ms):∀s∈ss,0≤s.lo∧s.hi≤999:=fun s hs=>by obtain⟨i,hi⟩:=kba hs;have:=(hg.slip i s hi).amt;omega
theorem zg9{most:Int}{ss:List Slip}{ms:List SumR}(hg:Good most ss ms):zaj most ss ms=(zah most ss ms).map (toR ss):=by unfold zaj zah;rw [zuv hg,List.filter_map];congr 1;refine List.filter_congr fun p hp=>?_;exact ag_eq hg (z1g hg) p hp
theorem zjp(most:Int)(ss:List Slip)(ms:List SumR)(own:Int):zbt most ss ms own=zcl most ss ms own:=by
 unfold zbt zcl;by_cases hc:zak most ss ms=0
 ·have hg:=(za2 most ss ms).1 hc;simp only [hc,ne_eq,not_true_eq_false,if_false,zg9 hg,List.map_eq_nil_iff]
 ·simp [hc]
theorem zvx{most:Int}{ss:List Slip}{ms:List SumR}(hg:Good most ss ms){i:Nat}(hi:i<(zah most ss ms).length):(zaj most ss ms).getD i rd0=toR ss ((zah most ss ms).getD i d12):=by rw [zg9 hg];simp [hi]
theorem zv9{most:Int}{ss:List Slip}{ms:List SumR}{i:Nat}(hi:i<(zah most ss ms).length):(zah most ss ms).getD i d12∈zah most ss ms:=by simp [hi]
theorem zmg{most:Int}{ss:List Slip}{ms:List SumR}{own:Int}(h:zbt most ss ms own=0):Good most ss ms∧zah most ss ms≠[]:=by
 unfold zbt at h;by_cases hc:zak most ss ms=0
 ·refine⟨(za2 most ss ms).1 hc,fun e=>?_⟩;simp only [hc,ne_eq,not_true_eq_false,if_false,e,if_true] at h;split at h
  ·contradiction
  ·cases h
 ·simp only [ne_eq,hc,not_false_eq_true,if_true] at h
theorem zzn(f:Nat→Int):∀n,zh2 f (n+1)=zfu f n
 | 0=>by simp [zh2,zfu]
 | n+1=>by rw [zh2,zzn f n,zfu]
theorem zlz{f g:Nat→Int}:∀n,(∀i,i≤n→f i=g i)→zfu f n=zfu g n
 | 0,h=>by simp [zfu,h 0]
 | n+1,h=>by simp only [zfu,zlz n fun i hi=>h i (by omega),h (n+1) (kac _)]
theorem yc6(most:Int)(ss:List Slip)(ms:List SumR)(k a:Int):zyr most ss ms k a=znn most ss ms k a:=by
 unfold zyr znn;rw [zjp];by_cases hl:zcl most ss ms (zc8 k a)=0
 ·obtain⟨hg,hne⟩:=zmg ((zjp ..).trans hl);have hpos:0<(zah most ss ms).length:=kbn.2 hne;obtain⟨n,hn⟩:∃n,(zah most ss ms).length=n+1:=⟨_,(Nat.succ_pred_eq_of_pos hpos).symm⟩;have hlen:(zaj most ss ms).length=n+1:=by rw [zg9 hg];simpa using hn
  simp only [hl,ne_eq,not_true_eq_false,if_false,hn,hlen,Nat.add_sub_cancel,zzn];rw [zlz n fun i hi=>?_];have hi':i<(zah most ss ms).length:=by omega
  rw [zzd,zzc,zvx hg hi'];exact zlx ss (zmb hg _ (ziu hg (zv9 hi')).1.1) _ _ _
 ·simp [hl]
theorem zj0{p q:Nat→Bool}:∀n,(∀i,i<n→p i=q i)→zcg p n=zcg q n
 | 0,_=>rfl
 | n+1,h=>by simp only [zcg,zj0 n fun i hi=>h i (by omega),h n (by omega)]
theorem z52(most:Int)(ss:List Slip)(ms:List SumR)(sum:Int):zge most ss ms sum=zf7 most ss ms sum:=by
 unfold zge zf7;rw [zjp];by_cases hl:zcl most ss ms (zgc ms sum)=0
 ·obtain⟨hg,hne⟩:=zmg ((zjp ..).trans hl);have hpos:0<(zah most ss ms).length:=kbn.2 hne;have hlen:(zaj most ss ms).length=(zah most ss ms).length:=by rw [zg9 hg];simp
  have hc:zcg (zwn most ss ms sum) (zah most ss ms).length=zcg (zfj most ss ms sum) (zah most ss ms).length:=zj0 _ fun i hi=>by rw [zwn,zfj,zvx hg hi,zhx ss ms (zmb hg _ (ziu hg (zv9 hi)).1.1)]
  simp only [hl,ne_eq,not_true_eq_false,if_false,hlen,hc,zpe,zy9,Prod.mk.injEq,and_true];generalize zcg (zfj most ss ms sum) (zah most ss ms).length=c;by_cases h0:c=0
  ·rw [if_pos h0,if_neg (by omega),if_pos (by omega)]
  ·by_cases h1:c=(zah most ss ms).length
   ·rw [if_neg h0,if_pos h1,if_pos (by omega)]
   ·rw [if_neg h0,if_neg h1,if_neg (by omega),if_neg (by omega)]
 ·simp [hl]
theorem zv2(l:List Int):∀n i,i<n→zcg (za0 l i) l.length≤zgr l n
 | 0,i,h=>by omega
 | n+1,i,h=>by
   simp only [zgr];by_cases e:i=n
   ·subst e;omega
   ·have:=zv2 l n i (by omega);omega
theorem z2g(p:Nat→Bool):∀m n,m≤n→zcg p m≤zcg p n:=fun m n h=>by
 induction n with
 | zero=>have:m=0:=by omega
         subst this;exact kac _
 | succ n ih =>
   by_cases e:m=n+1
   ·subst e;exact kac _
   ·have:=ih (by omega);simp only [zcg];split<;>omega
theorem zrf(l:List Int):∀q,q≤l.length→zkr l q≤zgr l l.length
 | 0,_=>kb6 _
 | q+1,h=>by
   have h1:=zrf l q (by omega);have h2:=z2g (za0 l q) (q+1) l.length h;have h3:=zv2 l l.length q h;have h4:zcg (za0 l q) (q+1)=zcg (za0 l q) q+1:=by simp [zcg,za0]
   simp only [zkr];omega
theorem z2f(l:List Int)(i:Nat):∀m,zcg (za0 l i) m≤zkr l m
 | 0=>kac _
 | m+1=>by
   have ih:=z2f l i m;simp only [zcg,zkr];split
   ·rename_i h;have e:l.getD m 0=l.getD i 0:=by simpa [za0] using h
    have:zcg (za0 l i) m=zcg (za0 l m) m:=zj0 m fun k _=>by simp only [za0,e]
    omega
   ·omega
theorem zv1(l:List Int):∀n,n≤l.length→zgr l n≤zkr l l.length
 | 0,_=>kb6 _
 | n+1,h=>by have:=zv1 l n (by omega);have:=z2f l n l.length;simp only [zgr];omega
theorem z4k(l:List Int):zkr l l.length=zgr l l.length:=Nat.le_antisymm (zrf l _ (kac _)) (zv1 l _ (kac _))
theorem zoz{g h:Nat→Nat}(n0:Nat):∀i,(∀j,j<i→g j=h j)→zhj g n0 i=zhj h n0 i
 | 0,_=>rfl
 | i+1,hh=>by simp only [zhj,zoz n0 i fun j hj=>hh j (by omega),hh i (by omega)]
theorem yeu(most:Int)(ss:List Slip)(ms:List SumR):zyu most ss ms=znr most ss ms:=by
 unfold zyu znr;rw [zjp];by_cases hl:zcl most ss ms 0=0
 ·obtain⟨hg,hne⟩:=zmg ((zjp ..).trans hl);have hlen:(zaj most ss ms).length=(zah most ss ms).length:=by rw [zg9 hg];simp
  have hc:zhj (zj7 most ss ms) (zah most ss ms).length ss.length=zhj (zst most ss ms) (zah most ss ms).length ss.length:=zoz _ _ fun i _=>by
   have e:zql ss (zaj most ss ms) i=ybr most ss ms i:=by unfold zql ybr;rw [zg9 hg,List.map_map];exact kcn fun p hp=>(zmb hg p (ziu hg hp).1.1 i).symm
   rw [zst,zj7,e,show(zah most ss ms).length=(ybr most ss ms i).length by simp [ybr],z4k]
  simp only [hl,ne_eq,not_true_eq_false,if_false,hlen,hc]
 ·simp [hl]
theorem zwm(ss:List Slip)(ms:List SumR)(ps:List zfo):∀n,n≤ps.length→
  match zp8 ss ms ps n with
  | none=>∀j,j<n→zi0 ss ms (ps.getD j rd0)=false
  | some b=>(∃j,j<n∧zi0 ss ms (ps.getD j rd0)=true∧b=zan ss ms (zc7 ss (ps.getD j rd0)))∧∀j,j<n→zi0 ss ms (ps.getD j rd0)=true→zh3 (zan ss ms (zc7 ss (ps.getD j rd0))) b=false
 | 0,_=>by simp [zp8]
 | n+1,h=>by
   have ih:=zwm ss ms ps n (by omega);simp only [zp8];by_cases hok:zi0 ss ms (ps.getD n rd0)=true
   ·rw [if_pos hok];cases hb:zp8 ss ms ps n with
    | none =>
      rw [hb] at ih;refine⟨⟨n,by omega,hok,rfl⟩,fun j hj hj2=>?_⟩;by_cases e:j=n
      ·subst e;exact zkx _
      ·rw [ih j (by omega)] at hj2;cases hj2
    | some b =>
      rw [hb] at ih;obtain⟨⟨j0,a1,a2,a3⟩,a4⟩:=ih;dsimp only;by_cases hs:zh3 (zan ss ms (zc7 ss (ps.getD n rd0))) b=true
      ·rw [if_pos hs];refine⟨⟨n,by omega,hok,rfl⟩,fun j hj hj2=>?_⟩;by_cases e:j=n
       ·subst e;exact zkx _
       ·exact ka8.2 fun hx=>ka8.1 (a4 j (by omega) hj2) (zjj hx hs)
      ·rw [if_neg hs];refine⟨⟨j0,by omega,a2,a3⟩,fun j hj hj2=>?_⟩;by_cases e:j=n
       ·subst e;exact ka8.2 hs
       ·exact a4 j (by omega) hj2
   ·rw [if_neg hok];cases hb:zp8 ss ms ps n with
    | none =>
      rw [hb] at ih;exact fun j hj=>by
       by_cases e:j=n
       ·subst e;exact ka8.2 hok
       ·exact ih j (by omega)
    | some b =>
      rw [hb] at ih;obtain⟨⟨j0,a1,a2,a3⟩,a4⟩:=ih;exact⟨⟨j0,by omega,a2,a3⟩,fun j hj hj2=>by
       by_cases e:j=n
       ·subst e;exact absurd hj2 hok
       ·exact a4 j (by omega) hj2⟩
theorem z0m{most:Int}{ss:List Slip}{ms:List SumR}(hg:Good most ss ms)(p:zd6)(hm:p∈zgf ss):zi0 ss ms (toR ss p)=okX ss ms p∧zan ss ms (zc7 ss (toR ss p))=zan ss ms (zc0 ss p):=by obtain⟨⟨hp,_⟩,hab⟩:=zna ss (z1g hg) p hm;have hnow:=zmb hg p hp;have hok:=zh6 ss p.1 p.2 hab ss.length;have e:=zhx ss ms hnow;exact⟨by rw [zi0,okX,←e,←zr2 hg hnow (zb6 _ _) (fun j=>(hok j).1),zwh],e.symm⟩
theorem z8a(most:Int)(ss:List Slip)(ms:List SumR):zjw most ss ms=zcf most ss ms:=by
 unfold zjw zcf;by_cases hc:zak most ss ms=0
 ·have hg:=(za2 most ss ms).1 hc;simp only [hc,ne_eq,not_true_eq_false,if_false];have hmin:=zwm ss ms (zds ss) (zds ss).length (kac _);have hget:∀j,j<(zds ss).length→∃p∈zgf ss,(zds ss).getD j rd0=toR ss p:=fun j hj=>by
   have hal:=zuv hg;have hj2:j<(zgf ss).length:=by rw [hal] at hj;simpa using hj
   exact⟨(zgf ss)[j],kbf _,by rw [hal];simp [hj2]⟩
  have hput:∀p∈zgf ss,∃j,j<(zds ss).length∧(zds ss).getD j rd0=toR ss p:=fun p hp=>by obtain⟨j,hj⟩:=kba hp;have hal:=zuv hg;have hj2:=(kab.1 hj).1;exact⟨j,by rw [hal];simpa using hj2,by rw [hal];simp [hj]⟩
  cases hb:zp8 ss ms (zds ss) (zds ss).length with
  | none =>rw [hb] at hmin;rw [if_pos ?_];rw [zht,List.map_eq_nil_iff,List.filter_eq_nil_iff];intro p hp;obtain⟨j,hj,e⟩:=hput p hp;have:=hmin j hj;rw [e,(z0m hg p hp).1] at this;simp [this]
  | some b =>
    rw [hb] at hmin;obtain⟨⟨j,a1,a2,a3⟩,a4⟩:=hmin;obtain⟨p,hp,e⟩:=hget j a1;rw [e] at a2 a3;rw [(z0m hg p hp).1] at a2;rw [(z0m hg p hp).2] at a3;have hbm:b∈zht ss ms (zgf ss):=by rw [a3];exact kav.2 ⟨p,kbw.2 ⟨hp,a2⟩,rfl⟩
    have hne:zht ss ms (zgf ss)≠[]:=fun h=>by rw [h] at hbm;cases hbm
    rw [if_neg hne];obtain⟨l1,l2⟩:=zhf (kbn.2 hne);have h2:zh3 (zgd (zht ss ms (zgf ss))) b=false:=by obtain⟨p2,hp2,e2⟩:=kav.1 l1;obtain⟨hp3,hp4⟩:=kbw.1 hp2;obtain⟨j2,hj2,e3⟩:=hput p2 hp3;have:=a4 j2 hj2 (by rw [e3,(z0m hg p2 hp3).1];exact hp4);rwa [e3,(z0m hg p2 hp3).2,e2] at this
    rw [zvo h2 (l2 b hbm)]
 ·simp [hc]
theorem z50(most:Int)(ss:List Slip)(ms:List SumR):(zjw most ss ms).2≠0↔zcf most ss ms=([],9)∨zak most ss ms≠0:=by
 rw [←z8a];unfold zjw;by_cases hc:zak most ss ms=0
 ·by_cases he:zht ss ms (zgf ss)=[]
  ·simp [hc,he]
  ·simp [hc,he]
 ·simp [hc]
theorem ya2(most:Int)(ss:List Slip)(ms:List SumR):(zjw most ss ms).1.length≤100000:=by
 unfold zjw;by_cases hc:zak most ss ms=0
 ·have hg:=(za2 most ss ms).1 hc;by_cases he:zht ss ms (zgf ss)=[]
  ·simp [hc,he]
  ·simp only [hc,ne_eq,not_true_eq_false,if_false,he];obtain⟨l1,_⟩:=zhf (kbn.2 he);obtain⟨p,_,e⟩:=kav.1 l1;rw [←e];have:=hg.nms;unfold zan zao;have h2:=kbc (fun j=>zd3 ss (zc0 ss p) (ms.getD j ⟨0,0,0,0,false⟩)) (List.range ms.length);simp at h2 ⊢;omega
 ·simp [hc]
theorem yac(u:Nat→ByteArray)(hsum:AFn (cx (zch u)) 5 [] (vb true))(most:Int)(ss:List Slip)(ms:List SumR)(k a sum:Int) :
  Top (cx (zch u)) 3 [bk most ss ms,vi k,vi a,vi sum] (vb true) :=
 law_a most ss ms k a sum hsum (fun _ _=>yc6 most ss ms k a) (fun _ _=>z52 most ss ms sum) (fun _ _=>z8a most ss ms) (fun _ _=>yeu most ss ms) (z50 most ss ms) (ya2 most ss ms)
section
variable{G:zbf}{u:Nat→ByteArray}
def exH:List zd6:=[([20,10,5,30,0,0],[false,false,false,false,false,false]),([21,10,5,30,0,0],[false,false,false,false,false,false]),([21,10,6,30,0,0],[false,false,false,false,false,false]),([22,10,6,30,0,0],[false,false,false,false,false,false])]
theorem z12:zah 1 exS exM=exH:=by decide +kernel
theorem z57:zak 1 exS exM=0:=by decide +kernel
theorem ya4:zbt 1 exS exM 0=0:=by unfold zbt;rw [z57,z12];rfl
attribute [local irreducible] AOp AW ADr AFn ze1 AFt AOpJ
set_option maxRecDepth 20000
set_option maxHeartbeats 8000000
theorem ycg{P G:Prop}(n:P)(h:Go.Kp.Wr P→G:=by(intro n;first|((with_reducible apply kC);first|exact gB ⟨_,zla _ _ _ _ hn,.mk rfl n.p⟩|exact gB ⟨_,zje _,.mk rfl n.p⟩|exact gB ⟨_,hlook,.mk rfl n.p⟩|exact gB ⟨_,z7n,.mk rfl n.p⟩|exact gK n.p|exact gS n.p)|exact⟨_,zla _ _ _ _ hn,n.p⟩|exact⟨_,zje _,n.p⟩|exact⟨_,hlook,n.p⟩|exact⟨_,z7n,n.p⟩|exact sk n.p|exact ap n.p)):G:=h ⟨n⟩
theorem zo1:AFn (cx (zch u)) 18 [bk 1 exS exM,vi 0] (.tup [.sl 1 (il [20,21,22]),vi 0]):=by
 refine zg1 Tryz.func18 rfl Tryz.ntmps18 rfl rfl rfl (fun Q hQ=>?_) rfl;have hn:exS.length≤20:=by decide
 have hlook:=zgt (u:=u) (own:=if decide (0≤(0:Int)∧(0:Int)≤((exS.length:Nat):Int)-1)=true then 0 else 6) ya4;unfold opA at hlook;rw [z12] at hlook;(repeat' (first  |((with_reducible apply kC);first|refine gM (p:=[]) (ys:=[.own 1000]) (q:=[]) zfm ?_)|refine sy ?_|refine aS fun P9 h9=>?_|refine aB fun P9 _ _ _ _=>?_|refine ycg ?_|(refine s2 ?_ ?_<;>intro h7<;>try omega)))
 refine zbx (zbd 8 1000 1 3 rfl rfl) ?_;refine zam 4 (fun i=>[(2*1,.av (vi 0)),(2*25,.av (.sl 6 (amR exS exH))),(2*26,.av (vi 4)),(2*27,.av (vi i)),(2*8,.av (.own 1000)),(2*1000+1,.buf 1 3 (il (([20,21,21,22]:List Int).take i)))]) ?_ ?_
 ·exact si
 ·intro i hi;rcases(show i=0∨i=1∨i=2∨i=3∨i=4 by omega) with rfl|rfl|rfl|rfl|rfl
  ·have h2:(il (([20,21,21,22]:List Int).take 0)).length+1≤1000000000:=by decide
   (repeat' (first  |((with_reducible apply kC);first|refine gM (p:=[]) (ys:=[.own 1000]) (q:=[]) zfm ?_)|refine sy ?_|refine aS fun P9 h9=>?_|refine aB fun P9 _ _ _ _=>?_|refine ycg ?_|(refine s2 ?_ ?_<;>intro h7<;>try omega)));refine⟨by decide,?_⟩;refine zbg (rn1 1000 37) ?_ rfl rfl;exact sr
  ·have h2:(il (([20,21,21,22]:List Int).take 1)).length+1≤1000000000:=by decide
   (repeat' (first  |((with_reducible apply kC);first|refine gM (p:=[]) (ys:=[.own 1000]) (q:=[]) zfm ?_)|refine sy ?_|refine aS fun P9 h9=>?_|refine aB fun P9 _ _ _ _=>?_|refine ycg ?_|(refine s2 ?_ ?_<;>intro h7<;>try omega)));refine⟨by decide,?_⟩;refine zbg (rn1 1000 37) ?_ rfl rfl;exact sr
  ·have h2:(il (([20,21,21,22]:List Int).take 2)).length+1≤1000000000:=by decide
   (repeat' (first  |((with_reducible apply kC);first|refine gM (p:=[]) (ys:=[.own 1000]) (q:=[]) zfm ?_)|refine sy ?_|refine aS fun P9 h9=>?_|refine aB fun P9 _ _ _ _=>?_|refine ycg ?_|(refine s2 ?_ ?_<;>intro h7<;>try omega)));refine⟨by decide,?_⟩;refine zbg (rn1 1000 37) ?_ rfl rfl;exact sr
  ·have h2:(il (([20,21,21,22]:List Int).take 3)).length+1≤1000000000:=by decide
   (repeat' (first  |((with_reducible apply kC);first|refine gM (p:=[]) (ys:=[.own 1000]) (q:=[]) zfm ?_)|refine sy ?_|refine aS fun P9 h9=>?_|refine aB fun P9 _ _ _ _=>?_|refine ycg ?_|(refine s2 ?_ ?_<;>intro h7<;>try omega)));refine⟨by decide,?_⟩;refine zbg (rn1 1000 37) ?_ rfl rfl;exact sr
  ·(repeat' (first  |((with_reducible apply kC);first|refine gM (p:=[]) (ys:=[.own 1000]) (q:=[]) zfm ?_)|refine sy ?_|refine aS fun P9 h9=>?_|refine aB fun P9 _ _ _ _=>?_|refine ycg ?_|(refine s2 ?_ ?_<;>intro h7<;>try omega)));refine hQ.go _ _ _ (z9i 4 1000 3000 rfl rfl rfl (by decide) (by decide) (by decide)) (.inr rfl) rfl
end
section
variable{G:zbf}{u:Nat→ByteArray}
theorem exv_h:zr3 1 exS exM=(4,0):=by decide +kernel
theorem yd5:zr3 1 exO exM=(4,0):=by decide +kernel
theorem exv_p:zcp 1 exS exM [21,10,5,30] [true]=(([21,10,5,30,0,0],[false,false,false,true,false,false]),0):=by decide +kernel
theorem yd4:zxt 1 exS exM [21,10,5,30] [true]=[30,10,5,0]:=by decide +kernel
theorem yd3:zxs 1 exS exM [21,10,5,30] [true]=[0,1]:=by decide +kernel
theorem exv_g:zh4 1 exS exM 3=(2,0):=by decide +kernel
theorem exv_d:zyr 1 exS exM 1 1=((25,26),0):=by decide +kernel
theorem exv_f:zge 1 exS exM 1=(1,0):=by decide +kernel
theorem exv_t:zge 1 exS exM 0=(2,0):=by decide +kernel
theorem exv_w:zjw 1 exS exM=([1],0):=by decide +kernel
theorem exv_k:zyu 1 exS exM=((0,2),0):=by decide +kernel
theorem exv_s:zkp 1 exS exM 3 false=0:=by decide +kernel
theorem yd2:zrc exS 3 false=exO:=by decide +kernel
def dd:List Nat→List Nat
 | []=>[]
 | x::xs=>bif (dd xs).any (Nat.beq x) then dd xs else x::dd xs
theorem z0t(x:Nat):∀l,x∈dd l↔x∈l
 | []=>Iff.rfl
 | y::l=>by
   have ih:=z0t x l;simp only [dd];cases h:(dd l).any (Nat.beq y) with
   | true =>obtain⟨z,hz,hy⟩:=kaz.1 h;have e:=kaj hy;subst e;simp only [cond_true,kat,ih];exact⟨.inr,fun hx=>hx.elim (fun e=>e▸(z0t y l).1 hz) id⟩
   | false=>simp only [cond_false,kat,ih]
def ancD:List Oper→List (List Nat)→List (List Nat)
 | [],acc=>acc
 | o::os,acc=>ancD os (acc++[dd (o.after.toList.flatMap fun e=>bif Region.binds .any e then e.on::acc.getD e.on [] else [])])
def zng(l l':List (List Nat)):Prop:=l.length=l'.length∧∀i x,x∈l.getD i []↔x∈l'.getD i []
theorem zng.app{l l':List (List Nat)}{a b:List Nat}(h:zng l l')(hab:∀x,x∈a↔x∈b):zng (l++[a]) (l'++[b]):=by
 refine⟨by simp [h.1],fun i x=>?_⟩;have h2:=h.2 i x;simp only [kai] at h2 ⊢;rcases kdd i l.length with hi|hi|hi
 ·rw [kam hi,kam (h.1▸hi)];exact h2
 ·rw [kao (by omega),kao (by have:=h.1;omega),hi,←h.1];simpa using hab x
 ·rw [kay (by simp;omega),kay (by have:=h.1;simp;omega)]
theorem zw3:∀(os:List Oper) {acc acc':List (List Nat)},zng acc acc'→zng (zj8 os acc) (ancD os acc')
 | [],_,_,h=>h
 | o::os,acc,acc',h=>zw3 os (h.app fun x=>by
    rw [z0t];simp only [kcq];refine exists_congr fun e=>and_congr_right fun _=>?_;cases Region.binds .any e
    ·exact Iff.rfl
    ·simp only [cond_true,kat,h.2 e.on x])
def ordW(anc:List (List Nat))(ops:List Oper)(data:List (List Nat×List Nat)):Bool :=
 Nat.beq data.length ops.length&&anc.zipIdx.all (fun p=>p.1.all fun k=>Nat.blt k p.2)&&(List.range ops.length).all fun j=>(List.range j).all fun i=>zoa anc data i j
theorem zng.get{l l':List (List Nat)}(h:zng l l'){i:Nat}{a:List Nat}(ha:l[i]?=some a):∃b,l'[i]?=some b∧∀x,x∈a↔x∈b:=by have hi:=(kab.1 ha).1;have hb:=kaa (l:=l') (i:=i) (h.1▸hi);refine⟨_,hb,fun x=>?_⟩;have:=h.2 i x;simpa [kai,ha,hb] using this
theorem zng.symm{l l':List (List Nat)}(h:zng l l'):zng l' l:=⟨h.1.symm,fun i x=>(h.2 i x).symm⟩
theorem z0c{l l':List (List Nat)}(h:zng l l'){data:List (List Nat×List Nat)}{i j:Nat}(hp:zoa l' data i j=true):zoa l data i j=true:=by
 unfold zoa at hp ⊢;cases hb:l'[j]? with
 | none=>rw [hb] at hp;split at hp<;>simp_all
 | some b =>
   obtain⟨a,ha,hab⟩:=h.symm.get hb;rw [hb] at hp;rw [ha];split at hp
   ·rename_i Ri Wi Rj Wj l0 h1 h2 h3;cases h3
    rw [h1,h2];simp only [kc1] at hp ⊢;refine hp.imp (fun hx=>?_) id;obtain⟨x,hx,he⟩:=kaz.1 hx;exact kaz.2 ⟨x,(hab x).1 hx,he⟩
   ·cases hp
theorem z94{ops:List Oper}{data:List (List Nat×List Nat)}(h:ordW (ancD ops []) ops data=true):ztw ops data=true:=by
 have hs:=zw3 ops (acc:=[]) (acc':=[]) ⟨rfl,fun _ _=>Iff.rfl⟩;show ordW (zj8 ops []) ops data=true;unfold ordW at h ⊢;simp only [ka0,kar] at h ⊢;obtain⟨⟨h1,h2⟩,h3⟩:=h;refine⟨⟨h1,fun p hp k hk=>?_⟩,fun j hj i hi=>z0c hs (h3 j hj i hi)⟩;obtain⟨a,i⟩:=p;have ha:(zj8 ops [])[i]?=some a:=by simpa using kc7.1 hp
 obtain⟨b,hb,hab⟩:=hs.get ha;exact h2 (b,i) (kc7.2 (by simpa using hb)) k ((hab k).1 hk)
theorem gED{C:Cx}{N:Nat}{ops:List Oper}{dr:Bool}{K:AS→Prop}{acc:List (List Nat×List Nat)}{s:AS}(h:K s)(ho:ordW (ancD ops []) ops acc.reverse=true):ADr C N ops dr K [] acc s:=⟨fun _=>z94 ho,h⟩
def tl:Nat→Option Code→Option Code
 | 0,o=>o
 | n+1,some (.seq _ e)=>tl n (some e)
 | _,_=>none
def Go5(u:Nat→ByteArray)(k:Nat)(Q:Exit→AS→Prop)(s:AS):Prop:=∀c,tl k Tryz.f5.body=some c→AW (cx (zch u)) none 198 c Q s
theorem zr6{k:Nat}{Q:Exit→AS→Prop}{s:AS}{c:Code}(e:tl k Tryz.f5.body=some c)(h:AW (cx (zch u)) none 198 c Q s):Go5 u k Q s:=fun _c' e'=>kaw (e.symm.trans e')▸h
theorem zpz{k:Nat}{Q:Exit→AS→Prop}{s s':AS}{c:Code}(h:Go5 u k Q s')(e:tl k Tryz.f5.body=some c)(hs:Sub (zch u) 198 s s'):AW (cx (zch u)) none 198 c Q s:=zbx hs (h c e)
attribute [local irreducible] AOp AW ADr AFn ze1 AFt AOpJ
attribute [local irreducible] Go5
set_option maxRecDepth 20000
set_option maxHeartbeats 16000000
abbrev sS3:AS:=[(2*1,.av (.ptr 1 0)),(2*1+1,.cells 25 [vi 1,.sl 7 (exS.map Slip.row),.sl 5 (exM.map SumR.row)]),(2*2,.av (vi 4)),(2*3,.av (vi 0))]
abbrev sS5:AS:=[(2*1,.av (.ptr 1 0)),(2*1+1,.cells 25 [vi 1,.sl 7 (exS.map Slip.row),.sl 5 (exM.map SumR.row)]),(2*2,.av (vi 4)),(2*3,.av (vi 0)),(2*4,.av (.sl 1 (il [30,10,5,0]))),(2*5,.av (.sl 1 (il [0,1]))),(2*6,.av (vi 0)),(2*7,.av (.sl 1 (il [20,21,22]))),(2*8,.av (vi 0))]
abbrev sS9:AS:=[(2*1,.av (.ptr 1 0)),(2*1+1,.cells 25 [vi 1,.sl 7 (exS.map Slip.row),.sl 5 (exM.map SumR.row)]),(2*2,.av (vi 4)),(2*3,.av (vi 0)),(2*4,.av (.sl 1 (il [30,10,5,0]))),(2*5,.av (.sl 1 (il [0,1]))),(2*6,.av (vi 0)),(2*7,.av (.sl 1 (il [20,21,22]))),(2*8,.av (vi 0)),(2*9,.av (vi 2)),(2*10,.av (vi 0)),(2*11,.av (.ptr 11 0)),(2*11+1,.cells 30 [vi 25,vi 26]),(2*12,.av (vi 0)),(2*13,.av (vi 1)),(2*14,.av (vi 0)),(2*15,.av (vi 2)),(2*16,.av (vi 0))]
abbrev sS11:AS:=[(2*1,.av (.ptr 1 0)),(2*1+1,.cells 25 [vi 1,.sl 7 (exS.map Slip.row),.sl 5 (exM.map SumR.row)]),(2*2,.av (vi 4)),(2*3,.av (vi 0)),(2*4,.av (.sl 1 (il [30,10,5,0]))),(2*5,.av (.sl 1 (il [0,1]))),(2*6,.av (vi 0)),(2*7,.av (.sl 1 (il [20,21,22]))),(2*8,.av (vi 0)),(2*9,.av (vi 2)),(2*10,.av (vi 0)),(2*11,.av (.ptr 11 0)),(2*11+1,.cells 30 [vi 25,vi 26]),(2*12,.av (vi 0)),(2*13,.av (vi 1)),(2*14,.av (vi 0)),(2*15,.av (vi 2)),(2*16,.av (vi 0)),(2*17,.av (.sl 1 (il [1]))),(2*18,.av (vi 0)),(2*19,.av (vi 0)),(2*20,.av (vi 2)),(2*21,.av (vi 0))]
abbrev sS13:AS:=[(2*2,.av (vi 4)),(2*3,.av (vi 0)),(2*4,.av (.sl 1 (il [30,10,5,0]))),(2*5,.av (.sl 1 (il [0,1]))),(2*6,.av (vi 0)),(2*7,.av (.sl 1 (il [20,21,22]))),(2*8,.av (vi 0)),(2*9,.av (vi 2)),(2*10,.av (vi 0)),(2*11,.av (.ptr 11 0)),(2*11+1,.cells 30 [vi 25,vi 26]),(2*12,.av (vi 0)),(2*13,.av (vi 1)),(2*14,.av (vi 0)),(2*15,.av (vi 2)),(2*16,.av (vi 0)),(2*17,.av (.sl 1 (il [1]))),(2*18,.av (vi 0)),(2*19,.av (vi 0)),(2*20,.av (vi 2)),(2*21,.av (vi 0)),(2*23,.av (vi 7)),(2*24,.av (.ptr 24 0)),(2*24+1,.cells 25 [vi 1,.sl 7 (exO.map Slip.row),.sl 5 (exM.map SumR.row)]),(2*25,.av (vi 0))]
abbrev sS15:AS:=[(2*2,.av (vi 4)),(2*3,.av (vi 0)),(2*4,.av (.sl 1 (il [30,10,5,0]))),(2*5,.av (.sl 1 (il [0,1]))),(2*6,.av (vi 0)),(2*7,.av (.sl 1 (il [20,21,22]))),(2*8,.av (vi 0)),(2*9,.av (vi 2)),(2*10,.av (vi 0)),(2*11,.av (.ptr 11 0)),(2*11+1,.cells 30 [vi 25,vi 26]),(2*12,.av (vi 0)),(2*13,.av (vi 1)),(2*14,.av (vi 0)),(2*15,.av (vi 2)),(2*16,.av (vi 0)),(2*17,.av (.sl 1 (il [1]))),(2*18,.av (vi 0)),(2*19,.av (vi 0)),(2*20,.av (vi 2)),(2*21,.av (vi 0)),(2*23,.av (vi 7)),(2*25,.av (vi 0)),(2*26,.av (vi 4)),(2*27,.av (vi 0)),(2*28,.av (.ptr 28 0)),(2*28+1,.cells 25 [vi 1,.sl 7 (exC.map Slip.row),.sl 5 (exM.map SumR.row)]),(2*29,.av (vi 0))]
abbrev sS16:AS:=[(2*2,.av (vi 4)),(2*4,.av (.sl 1 (il [30,10,5,0]))),(2*5,.av (.sl 1 (il [0,1]))),(2*7,.av (.sl 1 (il [20,21,22]))),(2*9,.av (vi 2)),(2*11,.av (.ptr 11 0)),(2*11+1,.cells 30 [vi 25,vi 26]),(2*13,.av (vi 1)),(2*15,.av (vi 2)),(2*17,.av (.sl 1 (il [1]))),(2*19,.av (vi 0)),(2*20,.av (vi 2)),(2*26,.av (vi 4)),(2*28,.av (.ptr 28 0)),(2*28+1,.cells 25 [vi 1,.sl 7 (exC.map Slip.row),.sl 5 (exM.map SumR.row)])]
abbrev sS17:AS:=[(2*4,.av (.sl 1 (il [30,10,5,0]))),(2*5,.av (.sl 1 (il [0,1]))),(2*7,.av (.sl 1 (il [20,21,22]))),(2*17,.av (.sl 1 (il [1])))]
theorem cvx0{P G:Prop}(n:P)(h:Go.Kp.Wr P→G:=by(intro n;first|((with_reducible apply kC);first|exact gB ⟨_,hp,.mk rfl n.p⟩|exact gB ⟨_,zo1,.mk rfl n.p⟩|exact gK n.p|exact gS n.p)|exact⟨_,hp,n.p⟩|exact⟨_,zo1,n.p⟩|exact sk n.p|exact ap n.p)):G:=h ⟨n⟩
theorem seg3{Q:Exit→AS→Prop}(h:Go5 u 5 Q sS5):Go5 u 3 Q sS3:=by
 have hp:AFn (cx (zch u)) 17 [bk 1 exS exM,.sl 1 (il [21,10,5,30]),.sl 1 (bl [true])] (.tup [.sl 1 (il [30,10,5,0]),.sl 1 (il [0,1]),vi 0]):=by have h:=z9z (u:=u) 1 exS exM [21,10,5,30] [true] (by decide) (by decide) (by decide);rw [exv_p,yd4,yd3] at h;exact h
 refine zr6 rfl ?_;(repeat' (first|exact zpz h rfl (by exact si) |refine sy ?_|refine aS fun P9 h9=>?_|refine aB fun P9 _ _ _ _=>?_|refine cvx0 ?_|(refine s2 ?_ ?_<;>intro h7<;>try omega)))
theorem cvx1{P G:Prop}(n:P)(h:Go.Kp.Wr P→G:=by(intro n;first|((with_reducible apply kC);first|exact gB ⟨_,hg,.mk rfl n.p⟩|exact gB ⟨_,hd,.mk rfl n.p⟩|exact gB ⟨_,hf,.mk rfl n.p⟩|exact gB ⟨_,ht,.mk rfl n.p⟩|exact gK n.p|exact gS n.p)|exact⟨_,hg,n.p⟩|exact⟨_,hd,n.p⟩|exact⟨_,hf,n.p⟩|exact⟨_,ht,n.p⟩|exact sk n.p|exact ap n.p)):G:=h ⟨n⟩
theorem seg5{Q:Exit→AS→Prop}(h:Go5 u 9 Q sS9):Go5 u 5 Q sS5:=by
 have hg:AFn (cx (zch u)) 19 [bk 1 exS exM,vi 3] (.tup [vi 2,vi 0]):=by have h:=z4j (u:=u) 1 exS exM 3 (by decide) (by decide);rw [exv_g] at h;exact h
 have hd:AFn (cx (zch u)) 6 [bk 1 exS exM,vi 1,vi 1] (.tup [.agg [vi 25,vi 26],vi 0]):=by have h:=yc7 (u:=u) 1 exS exM 1 1 (by decide) (by decide);rw [exv_d] at h;exact h
 have hf:AFn (cx (zch u)) 8 [bk 1 exS exM,vi 1] (.tup [vi 1,vi 0]):=by have h:=zuj (u:=u) 1 exS exM 1 (by decide) (by decide);rw [exv_f] at h;exact h
 have ht:AFn (cx (zch u)) 8 [bk 1 exS exM,vi 0] (.tup [vi 2,vi 0]):=by have h:=zuj (u:=u) 1 exS exM 0 (by decide) (by decide);rw [exv_t] at h;exact h
 refine zr6 rfl ?_;(repeat' (first|exact zpz h rfl (by exact si) |refine sy ?_|refine aS fun P9 h9=>?_|refine aB fun P9 _ _ _ _=>?_|refine cvx1 ?_|(refine s2 ?_ ?_<;>intro h7<;>try omega)))
theorem cvx2{P G:Prop}(n:P)(h:Go.Kp.Wr P→G:=by(intro n;first|((with_reducible apply kC);first|exact gB ⟨_,hw,.mk rfl n.p⟩|exact gB ⟨_,hk,.mk rfl n.p⟩|exact gK n.p|exact gS n.p)|exact⟨_,hw,n.p⟩|exact⟨_,hk,n.p⟩|exact sk n.p|exact ap n.p)):G:=h ⟨n⟩
theorem seg9{Q:Exit→AS→Prop}(h:Go5 u 11 Q sS11):Go5 u 9 Q sS9:=by
 have hw:AFn (cx (zch u)) 10 [bk 1 exS exM] (.tup [.sl 1 (il [1]),vi 0]):=by have h:=zwk (u:=u) 1 exS exM (by decide) (by decide);rw [exv_w,if_neg (by decide)] at h;exact h
 have hk:AFn (cx (zch u)) 13 [bk 1 exS exM] (.tup [vi 0,vi 2,vi 0]):=by have h:=yev (u:=u) 1 exS exM (by decide) (by decide);rw [exv_k] at h;exact h
 refine zr6 rfl ?_;(repeat' (first|exact zpz h rfl (by exact si) |refine sy ?_|refine aS fun P9 h9=>?_|refine aB fun P9 _ _ _ _=>?_|refine cvx2 ?_|(refine s2 ?_ ?_<;>intro h7<;>try omega)))
theorem cvx3{P G:Prop}(n:P)(h:Go.Kp.Wr P→G:=by(intro n;first|((with_reducible apply kC);first|exact gB ⟨_,zsn,.mk rfl n.p⟩|exact gB ⟨_,hs,.mk rfl n.p⟩|exact gK n.p|exact gS n.p)|exact⟨_,zsn,n.p⟩|exact⟨_,hs,n.p⟩|exact sk n.p|exact ap n.p)):G:=h ⟨n⟩
theorem seg11{Q:Exit→AS→Prop}(h:Go5 u 13 Q sS13):Go5 u 11 Q sS11:=by
 have hs:AFn (cx (zch u)) 21 [bk 1 exS exM,vi 3,vb false] (.tup [bk 1 exO exM,vi 0]):=by have h:=z9o (u:=u) 1 exS exM 3 false (by decide) (by decide);rw [zil,exv_s,yd2,if_pos rfl] at h;exact h
 refine zr6 rfl ?_;(repeat' (first|exact zpz h rfl (by exact si) |refine sy ?_|refine aS fun P9 h9=>?_|refine aB fun P9 _ _ _ _=>?_|refine cvx3 ?_|(refine s2 ?_ ?_<;>intro h7<;>try omega)))
theorem cvx4{P G:Prop}(n:P)(h:Go.Kp.Wr P→G:=by(intro n;first|((with_reducible apply kC);first|exact gB ⟨_,hho,.mk rfl n.p⟩|exact gB ⟨_,zso,.mk rfl n.p⟩|exact gK n.p|exact gS n.p)|exact⟨_,hho,n.p⟩|exact⟨_,zso,n.p⟩|exact sk n.p|exact ap n.p)):G:=h ⟨n⟩
theorem seg13{Q:Exit→AS→Prop}(h:Go5 u 15 Q sS15):Go5 u 13 Q sS13:=by
 have hho:AFn (cx (zch u)) 16 [bk 1 exO exM] (.tup [vi 4,vi 0]):=by have h:=zkg (u:=u) 1 exO exM (by decide) (by decide);rw [yd5] at h;exact h
 refine zr6 rfl ?_;(repeat' (first|exact zpz h rfl (by exact si) |refine sy ?_|refine aS fun P9 h9=>?_|refine aB fun P9 _ _ _ _=>?_|refine cvx4 ?_|(refine s2 ?_ ?_<;>intro h7<;>try omega)))
theorem seg15{Q:Exit→AS→Prop}(h:Go5 u 16 Q sS16):Go5 u 15 Q sS15:=by
 have q0:(!decide ((0:Int)=0))=false:=rfl;have q1:(!decide ((1:Int)=1))=false:=rfl;have q2:(!decide ((2:Int)=2))=false:=rfl;have q4:(!decide ((4:Int)=4))=false:=rfl;have q7:(!decide ((7:Int)=7))=false:=rfl;refine zr6 rfl ?_;(repeat' (first|exact zpz h rfl (by exact si) |refine sy ?_|refine aS fun P9 h9=>?_|refine aB fun P9 _ _ _ _=>?_|refine w0 ?_|(refine s2 ?_ ?_<;>intro h7<;>try omega)))
theorem cvx5{P G:Prop}(n:P)(h:Go.Kp.Wr P→G:=by(intro n;first|((with_reducible apply kC);first|exact gB ⟨_,to_a _ _,.mk rfl n.p⟩|exact gK n.p|exact gS n.p)|exact⟨_,to_a _ _,n.p⟩|exact sk n.p|exact ap n.p)):G:=h ⟨n⟩
theorem seg16{Q:Exit→AS→Prop}(h:Go5 u 17 Q sS17):Go5 u 16 Q sS16:=by
 have q0:(!decide ((0:Int)=0))=false:=rfl;have q1:(!decide ((1:Int)=1))=false:=rfl;have q2:(!decide ((2:Int)=2))=false:=rfl;have q4:(!decide ((4:Int)=4))=false:=rfl;have q7:(!decide ((7:Int)=7))=false:=rfl;refine zr6 rfl ?_
 (repeat' (first|exact zpz h rfl (by exact si)|(with_reducible refine gED ?_ (by kernel_rfl))|(refine g1 ?_ (by first|exact gdN rfl|exact gdT rfl rfl rfl) ⟨z27 (by decide) rfl rfl,z1y rfl rfl rfl⟩)|refine sk ?_|refine sy ?_|refine aS fun P9 h9=>?_|refine aB fun P9 _ _ _ _=>?_|refine cvx5 ?_))
theorem cvx6{P G:Prop}(n:P)(h:Go.Kp.Wr P→G:=by(intro n;first|((with_reducible apply kC);first|exact gB ⟨_,hss,.mk rfl n.p⟩|exact gK n.p|exact gS n.p)|exact⟨_,hss,n.p⟩|exact sk n.p|exact ap n.p)):G:=h ⟨n⟩
theorem seg17{Q:Exit→AS→Prop}(hQ:EndF (cx (zch u)) 198 Tryz.f5.results.toList (vb true) Q):Go5 u 17 Q sS17:=by
 have hss:=ztm (G:=zch u) [[30,10,5,0],[0,1],[20,21,22],[1]] [[30,10,5,0],[0,1],[20,21,22],[1]] (by decide) (by decide) (by decide) (by decide);refine zr6 rfl ?_;(repeat' (first  |refine sy ?_|refine aS fun P9 h9=>?_|refine aB fun P9 _ _ _ _=>?_|refine cvx6 ?_|(refine s2 ?_ ?_<;>intro h7<;>try omega)));exact hQ.go _ _ _ zcz (.inr rfl) rfl
theorem cvx7{P G:Prop}(n:P)(h:Go.Kp.Wr P→G:=by(intro n;first|((with_reducible apply kC);first|exact gB ⟨_,zsk,.mk rfl n.p⟩|exact gB ⟨_,hh,.mk rfl n.p⟩|exact gK n.p|exact gS n.p)|exact⟨_,zsk,n.p⟩|exact⟨_,hh,n.p⟩|exact sk n.p|exact ap n.p)):G:=h ⟨n⟩
theorem z35:AFn (cx (zch u)) 5 [] (vb true):=by
 refine zg1 Tryz.func5 rfl Tryz.ntmps5 rfl rfl rfl (fun Q hQ=>?_) rfl;have hh:AFn (cx (zch u)) 16 [bk 1 exS exM] (.tup [vi 4,vi 0]):=by have h:=zkg (u:=u) 1 exS exM (by decide) (by decide);rw [exv_h] at h;exact h
 (repeat' (first|exact zpz (seg3 (seg5 (seg9 (seg11 (seg13 (seg15 (seg16 (seg17 hQ)))))))) rfl (by exact si) |refine sy ?_|refine aS fun P9 h9=>?_|refine aB fun P9 _ _ _ _=>?_|refine cvx7 ?_|(refine s2 ?_ ?_<;>intro h7<;>try omega)))
end
end Go.Ab.J
namespace Go.Proofs.YtoipgpgoaegniaaGreatDoor
open Go Go.Ab Go.Ab.J
theorem salesSums_holds:Rows.SalesSumsCardSaid:=ybe fun u most ss ms k a sum=>yac u z35 most ss ms k a sum
end Go.Proofs.YtoipgpgoaegniaaGreatDoor
