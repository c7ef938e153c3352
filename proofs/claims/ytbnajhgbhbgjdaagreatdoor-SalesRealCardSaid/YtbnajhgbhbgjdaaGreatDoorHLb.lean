/- Pieces of a law about sales. Conditions: none. -/
import Derived.Test.YtbnajhgbhbgjdaaGreatDoorHLa
import Derived.LaidHandle
import Derived.LaidMore
import Derived.OpenShut
namespace Go.Ab
open Go Go.RowKit
section
variable{C:Cx}{N:Nat}{s:AS}{d:Nat}{ty:TypeId}{pos:String}{af:Array Edge}{g:Option (Nat×Bool)}{x y:Operand}{t t':TypeId}{k k':IntKind}{m n:Int}
def yjz(k:IntKind)(m n:Int):Int:=m / 2 ^ min n.toNat k.bits
theorem yjs(hd:d<N)(hx:ev s x=some (.val (.int k m)))(hy:ev s y=some (.val (.int k' n)))(h0:0<=n):AOp C N ⟨some d,.binOp .shr t x y t',ty,pos,af,g⟩ (rds x++rds y) s [(2*d,.av (.val (.int k (yjz k m n))))] :=
 zb2 hd hx hy λρ w e1 e2=>by simp [yjz,execOp,e1,e2,eqGuard,binOp,shift_shr_any _ _ _ _ h0]
theorem yka:∀n:Fin 256,IntKind.u8.wrap ((BitVec.ofInt 8 (n.val:Int)&&& BitVec.ofInt 8 1).toNat:Int)=(n.val:Int) % 2:=by decide +kernel
theorem yjt(hd:d<N)(hx:ev s x=some (.val (.int .u8 m)))(hy:ev s y=some (.val (.int .u8 1)))(h0:0<=m/\m<256):AOp C N ⟨some d,.binOp .and t x y t',ty,pos,af,g⟩ (rds x++rds y) s [(2*d,.av (.val (.int .u8 (m % 2))))] :=
 zb2 hd hx hy λρ w e1 e2=>by
  have h:=yka ⟨m.toNat,oc⟩;have e:((m.toNat:Nat):Int)=m:=oc
  simp only [e] at h;simp [execOp,e1,e2,eqGuard,binOp,Op.intBits];exact h
end
end Go.Ab
namespace Go.Ab.J
open Go Go.Proofs Go.Kp
variable{G:zbf}
def yj9(q:Int)(i:Int):Int:=yjz .u8 q i % 2
def yjn(m:SumR)(n:Int):SumR:=⟨m.kind,m.a,min m.lo n,max m.hi n,m.firm⟩
def yjg(ss:List Slip)(now:List Int)(m:SumR):Int:=zbo ss now m.kind.toNat m.a now.length
def yjb(most q:Int)(i:Nat)(lies:Int)(m:SumR):Bool:=decide (yj9 q i=1)&&decide (lies<most)&&!m.firm
def yja(most q:Int)(ss:List Slip)(now:List Int)(ms:List SumR):Nat->List SumR×Int
 | 0=>([],0)
 | i+1 =>
   if yjb most q i (yja most q ss now ms i).2 (ms.getD i d5) then ((yja most q ss now ms i).1++[ms.getD i d5],if (ms.getD i d5).lo<=yjg ss now (ms.getD i d5)/\yjg ss now (ms.getD i d5)<=(ms.getD i d5).hi then (yja most q ss now ms i).2 else (yja most q ss now ms i).2+1)
   else ((yja most q ss now ms i).1++[yjn (ms.getD i d5) (yjg ss now (ms.getD i d5))],(yja most q ss now ms i).2)
theorem yjy(most q:Int)(ss:List Slip)(now:List Int)(ms:List SumR)(i:Nat):yja most q ss now ms (i+1) =
 if yjb most q i (yja most q ss now ms i).2 (ms.getD i d5) then ((yja most q ss now ms i).1++[ms.getD i d5],if (ms.getD i d5).lo<=yjg ss now (ms.getD i d5)/\yjg ss now (ms.getD i d5)<=(ms.getD i d5).hi then (yja most q ss now ms i).2 else (yja most q ss now ms i).2+1)
 else ((yja most q ss now ms i).1++[yjn (ms.getD i d5) (yjg ss now (ms.getD i d5))],(yja most q ss now ms i).2):=rfl
theorem yjc(most q:Int)(ss:List Slip)(now:List Int)(ms:List SumR):∀i,(yja most q ss now ms i).1.length=i
 | 0=>rfl
 | i+1=>by have:=yjc most q ss now ms i;simp only [yja];split<;>simp [this]
theorem yjl(most q:Int)(ss:List Slip)(now:List Int)(ms:List SumR):∀i:Nat,0<=(yja most q ss now ms i).2/\(yja most q ss now ms i).2<=(i:Int)
 | 0=>by simp [yja]
 | i+1=>by
   have:=yjl most q ss now ms i;simp only [yja];split
   .split<;>simp only<;>omega
   .simp only;omega
theorem yjd{q:Int}(h:0<=q/\q<256)(i:Int):0<=yjz .u8 q i/\yjz .u8 q i<256:=by unfold yjz;have hp:(0:Int)<2 ^ min i.toNat IntKind.u8.bits:=Int.pow_pos oe;exact⟨Int.ediv_nonneg h.1 (Int.le_of_lt hp),Int.lt_of_le_of_lt (Int.ediv_le_self _ h.1) h.2⟩
def yj2:Code->Option Code
 | .seq a b=>match yj2 a with
   | some c=>some c
   | none=>yj2 b
 | .block _ c=>yj2 c
 | .loop c=>some c
 | _=>none
def Rnd(G:zbf)(Q:Exit->AS->Prop)(s:AS):Prop:=∀c,(Tryz.f28.body.bind yj2)=some c->AW (cx G) none Tryz.f28.ntmps c Q s
theorem yjq{Q:Exit->AS->Prop}{s:AS}{c:Code}{N:Nat}(e:(Tryz.f28.body.bind yj2)=some c)(hN:Tryz.f28.ntmps=N)(h:AW (cx G) none N c Q s):Rnd G Q s:=λc' e'=>by subst hN;exact kaw (e.symm.trans e')▸h
abbrev stT(most q:Int)(ss:List Slip)(now:List Int)(ms:List SumR)(T:List SumR×Int)(i:Nat):AS:=[(2*3,.av (.ptr 3 0)),(2*3+1,.cells 25 [vi most,.sl 7 (ss.map Slip.row),.sl 5 (ms.map SumR.row)]),(2*2,.av (.val (.int .u8 q))),(2*6,.av (.ptr 6 0)),(2*6+1,.cells 25 [vi 0,.val (.slice none 0 0),.val (.slice none 0 0)]),(2*8,.av (.ptr 8 0)),(2*8+1,.cells 25 [vi most,.sl 7 (ss.map Slip.row),.own 1000]),(2*1000+1,.buf 5 117 (T.1.map SumR.row)),(2*9,.av (.sl 1 (il now))),(2*10,.av (vi T.2)),(2*11,.av (vi i))]
attribute [local irreducible] AOp AW ADr AFn ze1 AFt AOpJ
attribute [local irreducible] yjz
set_option maxRecDepth 20000
set_option maxHeartbeats 8000000
theorem crn0{P G:Prop}(n:P)(h:Wr P->G:=by(intro n;first|((with_reducible apply kC);first|exact gB ⟨_,zpg _ _ _ _ _ _ hmk hn hnl hb,.mk rfl n.p⟩|exact gB ⟨_,to_a _ _,.mk rfl n.p⟩|exact gB ⟨_,ykb _ _ _,.mk rfl n.p⟩|exact gK n.p|exact gS n.p)|exact⟨_,zpg _ _ _ _ _ _ hmk hn hnl hb,n.p⟩|exact⟨_,to_a _ _,n.p⟩|exact⟨_,ykb _ _ _,n.p⟩|exact sk n.p|exact ap n.p)):G:=h ⟨n⟩
theorem yrr{G:Prop}(h:G:=by((repeat' (first|(refine g1 ?_ oo ⟨yjs oe rfl rfl oc,z11 rfl rfl rfl rfl rfl⟩)|(refine g1 ?_ oo ⟨yjt oe rfl rfl hbr,z11 rfl rfl rfl rfl rfl⟩)|refine sy ?_|(refine aZ ?_;intros)|refine crn0 ?_|fail));rw [hi1,kbt];refine zbg (rn1 1000 77) ?_ rfl rfl;exact sr)):G:=h
theorem rnd1{most q:Int}{ss:List Slip}{now:List Int}{ms:List SumR}(hq:0<=q/\q<256)(hn:ss.length<=20)(hm:ms.length<=20)(hnl:now.length<=ss.length)(hb:∀i,0<=now.getD i 0/\now.getD i 0<=999){i:Nat}(hlt:i<ms.length){m:SumR}(hms:ms[i]?=some m)(hmk:0<=m.kind)
  {l1:List SumR} {z1:Int} (hll:l1.length=i) (_hli:0<=z1/\z1<=(i:Int)) {P:AS->Prop} {Q:Exit->AS->Prop} (hb1:yj9 q i=1) (hb2:z1<most) (hf:m.firm=true) (hP:∀s',Sub G Tryz.f28.ntmps s' (stT most q ss now ms (l1++[yjn m (yjg ss now m)],z1) (i+1))->P s') :
  Rnd G (zii P Q) (stT most q ss now ms (l1,z1) i):=by
 have hrow:(ms.map SumR.row)[i]?=some m.row:=by simp [hms]
 have hil:i<(ms.map SumR.row).length:=oa hlt
 have hd:decide ((i:Int)<((ms.map SumR.row).length:Int))=true:=by simp;omega
 have hbr:=yjd hq (i:Int)
 have h1000:(l1.map SumR.row).length+1<=1000000000:=by simp;omega
 have hi1:vi ((i+1:Nat):Int)=vi ((i:Int)+1):=od
 have hd1:decide (yjz .u8 q (i:Int) % 2=1)=true:=decide_eq_true hb1
 have hd2:decide (z1<most)=true:=decide_eq_true hb2
 refine yjq rfl rfl ?_
 unfold stT at hP |-
 exact yrr
theorem rnd2{most q:Int}{ss:List Slip}{now:List Int}{ms:List SumR}(hq:0<=q/\q<256)(hn:ss.length<=20)(hm:ms.length<=20)(hnl:now.length<=ss.length)(hb:∀i,0<=now.getD i 0/\now.getD i 0<=999){i:Nat}(hlt:i<ms.length){m:SumR}(hms:ms[i]?=some m)(hmk:0<=m.kind)
  {l1:List SumR} {z1:Int} (hll:l1.length=i) (_hli:0<=z1/\z1<=(i:Int)) {P:AS->Prop} {Q:Exit->AS->Prop} (hb1:yj9 q i=1) (hb2:z1<most) (hf:m.firm=false) (hin:m.lo<=yjg ss now m/\yjg ss now m<=m.hi) (hP:∀s',Sub G Tryz.f28.ntmps s' (stT most q ss now ms (l1++[m],z1) (i+1))->P s') :
  Rnd G (zii P Q) (stT most q ss now ms (l1,z1) i):=by
 have hrow:(ms.map SumR.row)[i]?=some m.row:=by simp [hms]
 have hil:i<(ms.map SumR.row).length:=oa hlt
 have hd:decide ((i:Int)<((ms.map SumR.row).length:Int))=true:=by simp;omega
 have hbr:=yjd hq (i:Int)
 have h1000:(l1.map SumR.row).length+1<=1000000000:=by simp;omega
 have hi1:vi ((i+1:Nat):Int)=vi ((i:Int)+1):=od
 have hd1:decide (yjz .u8 q (i:Int) % 2=1)=true:=decide_eq_true hb1
 have hd2:decide (z1<most)=true:=decide_eq_true hb2
 have hd3:decide (m.lo<=zbo ss now m.kind.toNat m.a now.length/\zbo ss now m.kind.toNat m.a now.length<=m.hi)=true:=decide_eq_true hin
 refine yjq rfl rfl ?_
 unfold stT at hP |-
 exact yrr
theorem rnd3{most q:Int}{ss:List Slip}{now:List Int}{ms:List SumR}(hq:0<=q/\q<256)(hn:ss.length<=20)(hm:ms.length<=20)(hnl:now.length<=ss.length)(hb:∀i,0<=now.getD i 0/\now.getD i 0<=999){i:Nat}(hlt:i<ms.length){m:SumR}(hms:ms[i]?=some m)(hmk:0<=m.kind)
  {l1:List SumR} {z1:Int} (hll:l1.length=i) (hli:0<=z1/\z1<=(i:Int)) {P:AS->Prop} {Q:Exit->AS->Prop} (hb1:yj9 q i=1) (hb2:z1<most) (hf:m.firm=false) (hin:¬(m.lo<=yjg ss now m/\yjg ss now m<=m.hi)) (hP:∀s',Sub G Tryz.f28.ntmps s' (stT most q ss now ms (l1++[m],z1+1) (i+1))->P s') :
  Rnd G (zii P Q) (stT most q ss now ms (l1,z1) i):=by
 have hrow:(ms.map SumR.row)[i]?=some m.row:=by simp [hms]
 have hil:i<(ms.map SumR.row).length:=oa hlt
 have hd:decide ((i:Int)<((ms.map SumR.row).length:Int))=true:=by simp;omega
 have hbr:=yjd hq (i:Int)
 have h1000:(l1.map SumR.row).length+1<=1000000000:=by simp;omega
 have hi1:vi ((i+1:Nat):Int)=vi ((i:Int)+1):=od
 have hd1:decide (yjz .u8 q (i:Int) % 2=1)=true:=decide_eq_true hb1
 have hd2:decide (z1<most)=true:=decide_eq_true hb2
 have hd3:decide (m.lo<=zbo ss now m.kind.toNat m.a now.length/\zbo ss now m.kind.toNat m.a now.length<=m.hi)=false:=decide_eq_false hin
 clear hin
 refine yjq rfl rfl ?_
 unfold stT at hP |-
 exact yrr
theorem rnd4{most q:Int}{ss:List Slip}{now:List Int}{ms:List SumR}(hq:0<=q/\q<256)(hn:ss.length<=20)(hm:ms.length<=20)(hnl:now.length<=ss.length)(hb:∀i,0<=now.getD i 0/\now.getD i 0<=999){i:Nat}(hlt:i<ms.length){m:SumR}(hms:ms[i]?=some m)(hmk:0<=m.kind)
  {l1:List SumR} {z1:Int} (hll:l1.length=i) (_hli:0<=z1/\z1<=(i:Int)) {P:AS->Prop} {Q:Exit->AS->Prop} (hb1:yj9 q i=1) (hb2:¬z1<most) (hP:∀s',Sub G Tryz.f28.ntmps s' (stT most q ss now ms (l1++[yjn m (yjg ss now m)],z1) (i+1))->P s') :
  Rnd G (zii P Q) (stT most q ss now ms (l1,z1) i):=by
 have hrow:(ms.map SumR.row)[i]?=some m.row:=by simp [hms]
 have hil:i<(ms.map SumR.row).length:=oa hlt
 have hd:decide ((i:Int)<((ms.map SumR.row).length:Int))=true:=by simp;omega
 have hbr:=yjd hq (i:Int)
 have h1000:(l1.map SumR.row).length+1<=1000000000:=by simp;omega
 have hi1:vi ((i+1:Nat):Int)=vi ((i:Int)+1):=od
 have hd1:decide (yjz .u8 q (i:Int) % 2=1)=true:=decide_eq_true hb1
 have hd2:decide (z1<most)=false:=decide_eq_false hb2
 refine yjq rfl rfl ?_
 unfold stT at hP |-
 exact yrr
theorem rnd5{most q:Int}{ss:List Slip}{now:List Int}{ms:List SumR}(hq:0<=q/\q<256)(hn:ss.length<=20)(hm:ms.length<=20)(hnl:now.length<=ss.length)(hb:∀i,0<=now.getD i 0/\now.getD i 0<=999){i:Nat}(hlt:i<ms.length){m:SumR}(hms:ms[i]?=some m)(hmk:0<=m.kind)
  {l1:List SumR} {z1:Int} (hll:l1.length=i) (_hli:0<=z1/\z1<=(i:Int)) {P:AS->Prop} {Q:Exit->AS->Prop} (hb1:¬yj9 q i=1) (hP:∀s',Sub G Tryz.f28.ntmps s' (stT most q ss now ms (l1++[yjn m (yjg ss now m)],z1) (i+1))->P s') :
  Rnd G (zii P Q) (stT most q ss now ms (l1,z1) i):=by
 have hrow:(ms.map SumR.row)[i]?=some m.row:=by simp [hms]
 have hil:i<(ms.map SumR.row).length:=oa hlt
 have hd:decide ((i:Int)<((ms.map SumR.row).length:Int))=true:=by simp;omega
 have hbr:=yjd hq (i:Int)
 have h1000:(l1.map SumR.row).length+1<=1000000000:=by simp;omega
 have hi1:vi ((i+1:Nat):Int)=vi ((i:Int)+1):=od
 have hd1:decide (yjz .u8 q (i:Int) % 2=1)=false:=decide_eq_false hb1
 refine yjq rfl rfl ?_
 unfold stT at hP |-
 exact yrr
theorem crn1{P G:Prop}(n:P)(h:Wr P->G:=by(intro n;first|((with_reducible apply kC);first|exact gB ⟨_,zey _ _ _ _ _ hn hok hw hsg,.mk rfl n.p⟩|exact gB ⟨_,zll _ _ _ _ hn hnl hb,.mk rfl n.p⟩|exact gK n.p|exact gS n.p)|exact⟨_,zey _ _ _ _ _ hn hok hw hsg,n.p⟩|exact⟨_,zll _ _ _ _ hn hnl hb,n.p⟩|exact sk n.p|exact ap n.p)):G:=h ⟨n⟩
theorem yj6(most:Int)(ss:List Slip)(ms:List SumR)(wr:List Int)(sg:List Bool)(now:List Int)(q:Int)(hq:0<=q/\q<256)(hn:ss.length<=20)(hm:ms.length<=20)(hok:∀(i:Nat) (s:Slip),ss[i]?=some s->zne ss i s)(hw:wr.length=ss.length)(hsg:sg.length=(zae ss ss.length).length)
  (hnow:now=(zdv ss wr sg ss.length).1) (hb:∀i,0<=now.getD i 0/\now.getD i 0<=999) (hmk0:∀m∈ms,0<=m.kind) :
  AFn (cx G) 28 [bk most ss ms,.agg [.sl 1 (il wr),.sl 1 (bl sg)],.val (.int .u8 q)] (.tup [bk most ss (yja most q ss now ms ms.length).1,vb (zf9 ss now)]):=by
 have hnl:now.length<=ss.length:=by rw [hnow,zk3];exact kac _
 refine aby Tryz.func28 Tryz.ntmps28 λQ hQ=>?_
 (repeat' (first|refine sy ?_|(refine aZ ?_;intros)|refine crn1 ?_|fail))
 rw [<-hnow]
 clear hnow
 refine zbx (zh1 8 2 1000 5 117 rfl rfl rfl) ?_
 refine zam ms.length (λi=>stT most q ss now ms (yja most q ss now ms i) i) ?_ ?_
 .exact si
 .intro i hi;have hll:=yjc most q ss now ms i;have hli:=yjl most q ss now ms i;rcases kae i ms.length with hlt|hge
  .obtain⟨m,hms⟩:∃m,ms[i]?=some m:=⟨_,kaa hlt⟩;have hg:ms.getD i d5=m:=by simp [hms]
   have hmk:=hmk0 m (kag hms);have hs:=yjy most q ss now ms i;rw [hg] at hs;generalize yja most q ss now ms (i+1)=T2 at hs |-;generalize yja most q ss now ms i=T1 at hs hll hli |-;obtain⟨l1,z1⟩:=T1;dsimp only at hs hll hli;by_cases hb1:yj9 q i=1
   .by_cases hb2:z1<most
    .cases hf:m.firm with
     | true =>
       have hl:yjb most q i z1 m=false:=by simp [yjb,hf]
       rw [hl,if_neg oe] at hs;subst hs;exact rnd1 hq hn hm hnl hb hlt hms hmk hll hli hb1 hb2 hf (λs' h=>⟨hlt,h⟩) _ rfl
     | false =>
       have hl:yjb most q i z1 m=true:=by simp [yjb,hf,hb1,hb2]
       rw [hl,if_pos rfl] at hs;by_cases hin:m.lo<=yjg ss now m/\yjg ss now m<=m.hi
       .rw [if_pos hin] at hs;subst hs;exact rnd2 hq hn hm hnl hb hlt hms hmk hll hli hb1 hb2 hf hin (λs' h=>⟨hlt,h⟩) _ rfl
       .rw [if_neg hin] at hs;subst hs;exact rnd3 hq hn hm hnl hb hlt hms hmk hll hli hb1 hb2 hf hin (λs' h=>⟨hlt,h⟩) _ rfl
    .have hl:yjb most q i z1 m=false:=by simp [yjb,hb2]
     rw [hl,if_neg oe] at hs;subst hs;exact rnd4 hq hn hm hnl hb hlt hms hmk hll hli hb1 hb2 (λs' h=>⟨hlt,h⟩) _ rfl
   .have hl:yjb most q i z1 m=false:=by simp [yjb,hb1]
    rw [hl,if_neg oe] at hs;subst hs;exact rnd5 hq hn hm hnl hb hlt hms hmk hll hli hb1 (λs' h=>⟨hlt,h⟩) _ rfl
  .have he:i=ms.length:=oc
   subst he;have hd:decide ((ms.length:Int)<((ms.map SumR.row).length:Int))=false:=od
   unfold stT;(repeat' (first|refine sy ?_|(refine aZ ?_;intros)|refine crn1 ?_|fail));refine fe ?_;rfl
end Go.Ab.J
