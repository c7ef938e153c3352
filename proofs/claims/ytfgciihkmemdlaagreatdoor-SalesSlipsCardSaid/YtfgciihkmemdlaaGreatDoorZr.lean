/- What all laws about sales rest on, beside any goroutines. Conditions: none. -/
import Derived.Test.YtfgciihkmemdlaaGreatDoorZq
namespace Go.Ab.J
open Go Go.Proofs Go.Kp
section
variable{G:zbf}{u:Nat->ByteArray}
attribute [local irreducible] AOp AW ADr AFn ze1 AFt AOpJ
set_option maxRecDepth 20000
set_option maxHeartbeats 16000000
theorem zp7(most:Int)(ss:List Slip)(ms:List SumR)(hn:ss.length<=20):AFn (cx G) 150 [bk most ss ms] (.sl 1 (il (zae ss ss.length))):=by
 refine aby Tryz.func150 Tryz.ntmps150 λQ hQ=>?_;(repeat' (first|refine sx ?_|(refine aZ ?_;intros)|refine w0 ?_|fail));refine zbx (zbd 3 1000 1 3 rfl rfl) ?_;refine zam ss.length (λi=>[(2*8,.av (.sl 7 (ss.map Slip.row))),(2*9,.av (vi ((ss.map Slip.row).length:Int))),(2*3,.av (.own 1000)),(2*1000+1,.buf 1 3 (il (zae ss i))),(2*10,.av (vi i))]) ?_ ?_
 .exact si
 .intro i hi;have hlen:(zae ss i).length<=20:=by have:=zfi ss i;omega
  rcases kae i ss.length with hlt|hge
  .obtain⟨s,hs⟩:∃s,ss[i]?=some s:=⟨_,kaa hlt⟩;have hrow:(ss.map Slip.row)[i]?=some s.row:=by simp [hs]
   have hil:i<(ss.map Slip.row).length:=oa hlt
   have hg:ss.getD i ⟨0,0,0,0,0,0,0⟩=s:=by simp [hs]
   have hd:decide ((i:Int)<((ss.map Slip.row).length:Int))=true:=by simp;omega
   by_cases hk:s.kind=5
   .have hsucc:il (zae ss (i+1))=il (zae ss i)++[[vi i]]:=by rw [zbn,hg,if_pos hk];simp
    have hdk:decide (s.kind=5)=true:=oa hk
    (repeat' (first|refine sx ?_|(refine aZ ?_;intros)|refine w0 ?_|fail));refine⟨hlt,?_⟩;refine zbg (rn1 1000 21) ?_ rfl rfl;exact sr
   .have hsucc:il (zae ss (i+1))=il (zae ss i):=by rw [zbn,hg,if_neg hk];simp
    have hdk:decide (s.kind=5)=false:=oa hk
    (repeat' (first|refine sx ?_|(refine aZ ?_;intros)|refine w0 ?_|fail));refine⟨hlt,?_⟩;exact si
  .have he:i=ss.length:=oc
   subst he;have hd:decide ((ss.length:Int)<((ss.map Slip.row).length:Int))=false:=od
   (repeat' (first|refine sx ?_|(refine aZ ?_;intros)|refine w0 ?_|fail));refine fe ?_;rfl
theorem ctc0{P G:Prop}(n:P)(h:Wr P->G:=by(intro n;first|((with_reducible apply kC);first|exact gB ⟨_,z7o _ _ _ _ _ hs hn,.mk rfl n.p⟩|exact gB ⟨_,zp7 _ _ _ hn,.mk rfl n.p⟩|exact gK n.p|exact gS n.p)|exact⟨_,z7o _ _ _ _ _ hs hn,n.p⟩|exact⟨_,zp7 _ _ _ hn,n.p⟩|exact sk n.p|exact ap n.p)):G:=h ⟨n⟩
theorem etc0{G:Prop}(h:G:=by((repeat' (first|refine sx ?_|(refine aZ ?_;intros)|refine ctc0 ?_|fail));refine fe ?_;refine congrArg vi ?_;simp [zdt,h0,h3])):G:=h
theorem zzo(most:Int)(ss:List Slip)(ms:List SumR)(hn:ss.length<=20):AFn (cx (zch u)) 88 [bk most ss ms] (vi (zdt ss)):=by
 refine aby Tryz.func88 Tryz.ntmps88 λQ hQ=>?_;(repeat' (first|refine sx ?_|(refine aZ ?_;intros)|refine ctc0 ?_|fail));refine zbe ss.length (λi=>zgb ss i=0) (λi=>[(2*1,.av (.ptr 1 0)),(2*1+1,.cells 88 [vi most,.sl 7 (ss.map Slip.row),.sl 5 (ms.map SumR.row)]),(2*8,.av (vi ((ss.map Slip.row).length:Int))),(2*9,.av (vi i))]) rfl ?_ ?_
 .exact si
 .intro i hi h0;rcases kae i ss.length with hlt|hge
  .obtain⟨s,hs⟩:∃s,ss[i]?=some s:=⟨_,kaa hlt⟩;have hg:ss.getD i d7=s:=by simp [hs]
   have hd:decide ((i:Int)<((ss.map Slip.row).length:Int))=true:=by simp;omega
   have hi20:i<20:=oc
   by_cases hz:ze6 ss i s=0
   .have hdz:decide (ze6 ss i s=0)=true:=oa hz
    (repeat' (first|refine sx ?_|(refine aZ ?_;intros)|refine ctc0 ?_|fail));refine⟨hlt,ziz h0 (by rw [hg];exact hz),?_⟩;exact si
   .have hdz:decide (ze6 ss i s=0)=false:=oa hz
    have hS:zgb ss ss.length=ze6 ss i s:=by rw [zgb,zf6 h0 (by rw [hg];exact hz) hlt,hg]
    (repeat' (first|refine sx ?_|(refine aZ ?_;intros)|refine ctc0 ?_|fail));refine fe ?_;refine congrArg vi ?_;rw [zdt,hS];simp [hz]
  .have he:i=ss.length:=oc
   subst he;have hd:decide ((ss.length:Int)<((ss.map Slip.row).length:Int))=false:=od
   by_cases h3:2<(zae ss ss.length).length
   .have hd3:decide ((2:Int)<((il (zae ss ss.length)).length:Int))=true:=by simp;omega
    exact etc0
   .have hd3:decide ((2:Int)<((il (zae ss ss.length)).length:Int))=false:=by simp;omega
    exact etc0
theorem ycj{P G:Prop}(n:P)(h:Wr P->G:=by(intro n;first|((with_reducible apply kC);first|exact gB ⟨_,zu5 _ _,.mk rfl n.p⟩|exact gB ⟨_,zpj _ _ _ _,.mk rfl n.p⟩|exact gK n.p|exact gS n.p)|exact⟨_,zu5 _ _,n.p⟩|exact⟨_,zpj _ _ _ _,n.p⟩|exact sk n.p|exact ap n.p)):G:=h ⟨n⟩
theorem etc1{G:Prop}(h:G:=by((repeat' (first|refine sx ?_|(refine aZ ?_;intros)|refine ycj ?_|fail));refine fe ?_;rfl)):G:=h
theorem z7l(most:Int)(ss:List Slip)(ms:List SumR)(hm:ms.length<=20):AFn (cx (zch u)) 89 [bk most ss ms] (vi (zhz ms)):=by
 refine aby Tryz.func89 Tryz.ntmps89 λQ hQ=>?_;by_cases h5:5<ms.length
 .have hd5:decide ((5:Int)<((ms.map SumR.row).length:Int))=true:=by simp;omega
  (repeat' (first|refine sx ?_|(refine aZ ?_;intros)|refine ycj ?_|fail));refine fe ?_;simp [zhz,h5]
 .have hd5:decide ((5:Int)<((ms.map SumR.row).length:Int))=false:=by simp;omega
  have hsums:zhz ms=zko ms ms.length:=by rw [zq6];simp [zhz,h5]
  (repeat' (first|refine sx ?_|(refine aZ ?_;intros)|refine ycj ?_|fail));refine zbe ms.length (λi=>zko ms i=0) (λi=>[(2*12,.av (.sl 5 (ms.map SumR.row))),(2*13,.av (vi ((ms.map SumR.row).length:Int))),(2*14,.av (vi i))]) rfl ?_ ?_
  .exact si
  .intro j hj hj0;rcases kae j ms.length with hjl|hjg
   .obtain⟨m,hms⟩:∃m,ms[j]?=some m:=⟨_,kaa hjl⟩;have hrow:(ms.map SumR.row)[j]?=some m.row:=by simp [hms]
    have hjr:j<(ms.map SumR.row).length:=oa hjl
    have hgm:ms.getD j d5=m:=by simp [hms]
    have hdj:decide ((j:Int)<((ms.map SumR.row).length:Int))=true:=by simp;omega
    have hj20:j<20:=oc
    by_cases hb:zcc m=true
    .have hv:(if zcc m then (1:Int) else 0)=1:=by rw [if_pos hb]
     have hS:zko ms ms.length=1:=by rw [zko,zf6 hj0 (by rw [hgm,hv];simp) hjl,hgm,hv]
     rw [hsums,hS] at hQ;by_cases hwt:zc8 m.kind m.a=0
     .have hdw:decide (zc8 m.kind m.a=0)=true:=oa hwt
      have hsp:decide (-9999<=m.lo/\m.lo<=m.hi/\m.hi<=9999)=false:=decide_eq_false λh=>by simp [zcc,hwt] at hb;omega
      exact etc1
     .have hdw:decide (zc8 m.kind m.a=0)=false:=oa hwt
      exact etc1
    .have hv:(if zcc m then (1:Int) else 0)=0:=by rw [if_neg hb]
     have hb2:zcc m=false:=oa hb
     have hwt:zc8 m.kind m.a=0:=by simp [zcc] at hb2;exact hb2.1
     have hdw:decide (zc8 m.kind m.a=0)=true:=oa hwt
     have hsp:decide (-9999<=m.lo/\m.lo<=m.hi/\m.hi<=9999)=true:=by simpa [zcc,hwt] using hb2
     (repeat' (first|refine sx ?_|(refine aZ ?_;intros)|refine ycj ?_|fail));refine⟨hjl,ziz hj0 (by rw [hgm,hv]),?_⟩;exact si
   .have he:j=ms.length:=oc
    subst he;have hdj:decide ((ms.length:Int)<((ms.map SumR.row).length:Int))=false:=od
    (repeat' (first|refine sx ?_|(refine aZ ?_;intros)|refine ycj ?_|fail));refine fe ?_;rw [hsums,hj0]
def z6j(most:Int)(ss:List Slip)(ms:List SumR):List (List AV):=[[.fn (.func 87) [bk most ss ms] []],[.fn (.func 88) [bk most ss ms] []],[.fn (.func 89) [bk most ss ms] []]]
theorem z8d{P G:Prop}(n:P)(h:Wr P->G:=by(intro n;first|((with_reducible apply kC);first|exact gB ⟨_,z74 _ _ _,.mk rfl n.p⟩|exact gB ⟨_,zzo _ _ _ hn,.mk rfl n.p⟩|exact gB ⟨_,z7l _ _ _ hm,.mk rfl n.p⟩|exact gK n.p|exact gS n.p)|exact⟨_,z74 _ _ _,n.p⟩|exact⟨_,zzo _ _ _ hn,n.p⟩|exact⟨_,z7l _ _ _ hm,n.p⟩|exact sk n.p|exact ap n.p)):G:=h ⟨n⟩
theorem zbh(most:Int)(ss:List Slip)(ms:List SumR)(hn:ss.length<=20)(hm:ms.length<=20):AFn (cx (zch u)) 26 [bk most ss ms] (vi (zak most ss ms)):=by
 refine aby Tryz.func26 Tryz.ntmps26 λQ hQ=>?_;(repeat' (first|refine sx ?_|(refine aZ ?_;intros)|refine z8d ?_|fail));refine zbe 3 (λi=>(1<=i->zh7 most ss.length=0)/\(2<=i->zdt ss=0)/\(3<=i->zhz ms=0)) (λi=>[(2*15,.av (.sl 1 (z6j most ss ms))),(2*16,.av (vi 3)),(2*17,.av (vi i))]) ⟨λh=>absurd h oc,λh=>absurd h oc,λh=>absurd h oc⟩ ?_ ?_
 .exact si
 rintro i hi ⟨h1,h2,h3⟩;have:i=0\/i=1\/i=2\/i=3:=oc
 rcases this with rfl|rfl|rfl|rfl
 ·
  by_cases hz:zh7 most ss.length=0
  .have hdz:decide (zh7 most ss.length=0)=true:=oa hz
   (repeat' (first|refine sx ?_|(refine aZ ?_;intros)|refine z8d ?_|fail));refine⟨oc,⟨λ_=>hz,λh=>absurd h oc,λh=>absurd h oc⟩,?_⟩;exact si
  .have hdz:decide (zh7 most ss.length=0)=false:=oa hz
   (repeat' (first|refine sx ?_|(refine aZ ?_;intros)|refine z8d ?_|fail));refine fe ?_;refine congrArg vi ?_;unfold zak;rw [if_pos hz]
 ·
  by_cases hz:zdt ss=0
  .have hdz:decide (zdt ss=0)=true:=oa hz
   (repeat' (first|refine sx ?_|(refine aZ ?_;intros)|refine z8d ?_|fail));refine⟨oc,⟨λ_=>h1 oc,λ_=>hz,λh=>absurd h oc⟩,?_⟩;exact si
  .have hdz:decide (zdt ss=0)=false:=oa hz
   (repeat' (first|refine sx ?_|(refine aZ ?_;intros)|refine z8d ?_|fail));refine fe ?_;refine congrArg vi ?_;unfold zak;rw [if_neg (by simp [h1 (oc)]),if_pos hz]
 ·
  by_cases hz:zhz ms=0
  .have hdz:decide (zhz ms=0)=true:=oa hz
   (repeat' (first|refine sx ?_|(refine aZ ?_;intros)|refine z8d ?_|fail));refine⟨oc,⟨λ_=>h1 oc,λ_=>h2 oc,λh=>hz⟩,?_⟩;exact si
  .have hdz:decide (zhz ms=0)=false:=oa hz
   (repeat' (first|refine sx ?_|(refine aZ ?_;intros)|refine z8d ?_|fail));refine fe ?_;refine congrArg vi ?_;unfold zak;rw [if_neg (by simp [h1 (oc)]),if_neg (by simp [h2 (oc)])]
 ·(repeat' (first|refine sx ?_|(refine aZ ?_;intros)|refine z8d ?_|fail));refine fe ?_;refine congrArg vi ?_;unfold zak;rw [if_neg (by simp [h1 (oc)]),if_neg (by simp [h2 (oc)]),h3 oc]
end
section
variable{G:zbf}{u:Nat->ByteArray}{E:Env}{w:World}
def amL(l:List Int):List AV:=[vi (l.getD 0 0),vi (l.getD 1 0),vi (l.getD 2 0),vi (l.getD 3 0),vi (l.getD 4 0),vi (l.getD 5 0)]
def psL(p:zd6):List AV:=[vi (p.1.getD 0 0),vi (p.1.getD 1 0),vi (p.1.getD 2 0),vi (p.1.getD 3 0),vi (p.1.getD 4 0),vi (p.1.getD 5 0),vb (p.2.getD 0 false),vb (p.2.getD 1 false),vb (p.2.getD 2 false),vb (p.2.getD 3 false),vb (p.2.getD 4 false),vb (p.2.getD 5 false)]
abbrev amA(l:List Int):AV:=.agg (amL l)
abbrev psA(p:zd6):AV:=.agg (psL p)
theorem lt6{i:Nat}(h:i<6):i=0\/i=1\/i=2\/i=3\/i=4\/i=5:=oc
theorem zm9(l:List Int){i:Nat}(h:i<6):(amL l)[0+i*1]?=some (vi (l.getD i 0)):=by rcases lt6 h with rfl|rfl|rfl|rfl|rfl|rfl<;>rfl
theorem z6w(l:List Int){i:Nat}(h:i<6):(amL l)[i]?=some (vi (l.getD i 0)):=by rcases lt6 h with rfl|rfl|rfl|rfl|rfl|rfl<;>rfl
theorem z9y(p:zd6){i:Nat}(h:i<6):(psL p)[0+i*1]?=some (vi (p.1.getD i 0)):=by rcases lt6 h with rfl|rfl|rfl|rfl|rfl|rfl<;>rfl
theorem zvw(p:zd6){i:Nat}(h:i<6):(psL p)[6+i*1]?=some (vb (p.2.getD i false)):=by rcases lt6 h with rfl|rfl|rfl|rfl|rfl|rfl<;>rfl
theorem zut(l:List Int)(hl:l.length=6){i:Nat}(h:i<6)(n:Int):(amL l).set (0+i*1) (vi n)=amL (l.set i n):=by obtain⟨x0,x1,x2,x3,x4,x5,rfl⟩:=z5b l hl;rcases lt6 h with rfl|rfl|rfl|rfl|rfl|rfl<;>rfl
theorem zqm(l:List Int):(amL l).length=6:=rfl
attribute [local irreducible] AOp AW ADr AFn ze1 AFt AOpJ
set_option maxRecDepth 20000
set_option maxHeartbeats 8000000
theorem z7p(p q:Bool):AFn (cx G) 215 [vb p,vb q] (vi (if p then 1 else if q then -1 else 0)):=by
 refine zag Tryz.func215 rfl Tryz.ntmps215 rfl rfl rfl ?_ rfl;cases p<;>cases q
 all_goals (repeat' (first|refine sx ?_|(refine aZ ?_;intros)|refine w0 ?_|fail))
 all_goals refine fe ?_
 all_goals rfl
theorem yeb{P G:Prop}(n:P)(h:Wr P->G:=by(intro n;first|((with_reducible apply kC);first|exact gB ⟨_,z7p _ _,.mk rfl n.p⟩|exact gB ⟨_,zit _,.mk rfl n.p⟩|exact gK n.p|exact gS n.p)|exact⟨_,z7p _ _,n.p⟩|exact⟨_,zit _,n.p⟩|exact sk n.p|exact ap n.p)):G:=h ⟨n⟩
theorem z25(s:Slip)(a:Int):AFn (cx G) 214 [.agg s.row,vi a] (vi (s.part 0 a)):=by
 refine zag Tryz.func214 rfl Tryz.ntmps214 rfl rfl rfl ?_ rfl;(repeat' (first|refine sx ?_|(refine aZ ?_;intros)|refine yeb ?_|(refine s2 ?_ ?_<;>intro h7<;>try omega)));all_goals refine fe ?_
 all_goals refine congrArg vi ?_
 all_goals simp only [Slip.part]
 all_goals unfold sgn
 all_goals simp_all
theorem z24(s:Slip)(a:Int):AFn (cx G) 216 [.agg s.row,vi a] (vi (s.part 1 a)):=by
 refine zag Tryz.func216 rfl Tryz.ntmps216 rfl rfl rfl ?_ rfl;(repeat' (first|refine sx ?_|(refine aZ ?_;intros)|refine yeb ?_|(refine s2 ?_ ?_<;>intro h7<;>try omega)));all_goals refine fe ?_
 all_goals refine congrArg vi ?_
 all_goals simp only [Slip.part]
 all_goals unfold sgn
 all_goals grind
theorem z23(s:Slip)(a:Int):AFn (cx G) 218 [.agg s.row,vi a] (vi (s.part 2 a)):=by
 refine zag Tryz.func218 rfl Tryz.ntmps218 rfl rfl rfl ?_ rfl;(repeat' (first|refine sx ?_|(refine aZ ?_;intros)|refine yeb ?_|(refine s2 ?_ ?_<;>intro h7<;>try omega)));all_goals refine fe ?_
 all_goals refine congrArg vi ?_
 all_goals simp only [Slip.part]
 all_goals unfold sgn
 all_goals grind
theorem z22(s:Slip)(a:Int):AFn (cx G) 219 [.agg s.row,vi a] (vi (s.part 3 a)):=by
 refine zag Tryz.func219 rfl Tryz.ntmps219 rfl rfl rfl ?_ rfl;(repeat' (first|refine sx ?_|(refine aZ ?_;intros)|refine yeb ?_|fail));all_goals refine fe ?_
 all_goals refine congrArg vi ?_
 all_goals simp only [Slip.part]
 all_goals unfold sgn
 all_goals simp_all
theorem z21(s:Slip)(a:Int):AFn (cx G) 220 [.agg s.row,vi a] (vi (s.part 4 a)):=by
 refine zag Tryz.func220 rfl Tryz.ntmps220 rfl rfl rfl ?_ rfl;(repeat' (first|refine sx ?_|(refine aZ ?_;intros)|refine yeb ?_|fail));all_goals refine fe ?_
 all_goals refine congrArg vi ?_
 all_goals simp only [Slip.part]
 all_goals unfold sgn
 all_goals simp_all
theorem ctd1{P G:Prop}(n:P)(h:Wr P->G:=by(intro n;first|((with_reducible apply kC);first|exact gB ⟨_,z25 _ _,.mk rfl n.p⟩|exact gB ⟨_,z24 _ _,.mk rfl n.p⟩|exact gB ⟨_,z23 _ _,.mk rfl n.p⟩|exact gB ⟨_,z22 _ _,.mk rfl n.p⟩|exact gB ⟨_,z21 _ _,.mk rfl n.p⟩|exact gK n.p|exact gS n.p)|exact⟨_,z25 _ _,n.p⟩|exact⟨_,z24 _ _,n.p⟩|exact⟨_,z23 _ _,n.p⟩|exact⟨_,z22 _ _,n.p⟩|exact⟨_,z21 _ _,n.p⟩|exact sk n.p|exact ap n.p)):G:=h ⟨n⟩
theorem zln(most:Int)(ss:List Slip)(ms:List SumR)(am:List Int)(k a:Int)(hn:ss.length<=6)(hk:0<=k/\k<=4)(hab:zhn am) :
  AFn (cx (zch u)) 56 [bk most ss ms,amA am,vi k,vi a] (vi (zbo ss am k.toNat a ss.length)):=by
 have hk5:k=0\/k=1\/k=2\/k=3\/k=4:=oc
 obtain⟨k0,rfl⟩:∃k0:Nat,k=(k0:Int):=⟨k.toNat,oc⟩
 simp only [kb9]
 refine aby Tryz.func56 Tryz.ntmps56 λQ hQ=>?_
 (repeat' (first|refine sx ?_|(refine aZ ?_;intros)|refine ctd1 ?_|fail))
 refine zam ss.length (λi=>[(2*14,.av (.sl 7 (ss.map Slip.row))),(2*15,.av (vi ((ss.map Slip.row).length:Int))),(2*5,.av (.ptr 5 0)),(2*5+1,.cells 99 (amL am)),(2*2,.av (vi k0)),(2*3,.av (vi a)),(2*9,.av (vi (zbo ss am k0 a i))),(2*16,.av (vi i))]) ?_ ?_
 .exact si
 .intro i hi;rcases kae i ss.length with hlt|hge
  .obtain⟨s,hs⟩:∃s,ss[i]?=some s:=⟨_,kaa oc⟩;have hrow:(ss.map Slip.row)[i]?=some s.row:=by simp [hs]
   have hil:i<(ss.map Slip.row).length:=by simp;omega
   have hg:ss.getD i d7=s:=by simp [hs]
   have hd:decide ((i:Int)<((ss.map Slip.row).length:Int))=true:=by simp;omega
   have hi6:i<6:=oc
   have hxr:=zm9 am hi6;have hxl:=zqm am;have hxb:=hab i;have hp:=z0r (ztu s k0 a) hxb;have hs1:=zpf ss am k0 a hab i;have hsucc:zbo ss am k0 a (i+1)=zbo ss am k0 a i+s.part k0 a*am.getD i 0:=by rw [zji,hg]
   have hk5':k0=0\/k0=1\/k0=2\/k0=3\/k0=4:=oc
   clear hk5 hk;rcases hk5' with rfl|rfl|rfl|rfl|rfl
   all_goals (repeat' (first|refine sx ?_|(refine aZ ?_;intros)|refine ctd1 ?_|fail))
   all_goals refine⟨hlt,?_⟩
   all_goals exact si
  .have he:i=ss.length:=oc
   subst he;have hd:decide ((ss.length:Int)<((ss.map Slip.row).length:Int))=false:=od
   (repeat' (first|refine sx ?_|(refine aZ ?_;intros)|refine ctd1 ?_|fail));refine fe ?_;rfl
end
section
variable{G:zbf}{u:Nat->ByteArray}{E:Env}{w:World}
attribute [local irreducible] AOp AW ADr AFn ze1 AFt AOpJ
set_option maxRecDepth 20000
set_option maxHeartbeats 8000000
theorem ctn0{P G:Prop}(n:P)(h:Wr P->G:=by(intro n;first|((with_reducible apply kC);first|exact gB ⟨_,zln _ _ _ am _ _ hn hmk hab,.mk rfl n.p⟩|exact gB ⟨_,zdp _ _ _,.mk rfl n.p⟩|exact gK n.p|exact gS n.p)|exact⟨_,zln _ _ _ am _ _ hn hmk hab,n.p⟩|exact⟨_,zdp _ _ _,n.p⟩|exact sk n.p|exact ap n.p)):G:=h ⟨n⟩
theorem zgh(most:Int)(ss:List Slip)(ms:List SumR)(am:List Int)(hn:ss.length<=6)(hm:ms.length<=5)(hkind:∀m∈ms,0<=m.kind/\m.kind<5)(hab:zhn am) :
  AFn (cx (zch u)) 59 [bk most ss ms,amA am] (.sl 1 (il (zan ss ms am))):=by
 refine aby Tryz.func59 Tryz.ntmps59 λQ hQ=>?_
 (repeat' (first|refine sx ?_|(refine aZ ?_;intros)|refine ctn0 ?_|fail))
 refine zbx (zbd 5 1000 1 3 rfl rfl) ?_
 refine zam ms.length (λi=>[(2*2,.av (.ptr 2 0)),(2*2+1,.cells 88 [vi most,.sl 7 (ss.map Slip.row),.sl 5 (ms.map SumR.row)]),(2*3,.av (.ptr 3 0)),(2*3+1,.cells 99 (amL am)),(2*10,.av (.sl 5 (ms.map SumR.row))),(2*11,.av (vi ((ms.map SumR.row).length:Int))),(2*5,.av (.own 1000)),(2*1000+1,.buf 1 3 (il (zao ss ms am i))),(2*12,.av (vi i))]) ?_ ?_
 .exact si
 .intro i hi;have hlen:(zao ss ms am i).length<=5:=by have:=zo7 ss ms am i;omega
  rcases kae i ms.length with hlt|hge
  .obtain⟨m,hms⟩:∃m,ms[i]?=some m:=⟨_,kaa hlt⟩;have hrow:(ms.map SumR.row)[i]?=some m.row:=by simp [hms]
   have hjr:i<(ms.map SumR.row).length:=oa hlt
   have hgm:ms.getD i d5=m:=by simp [hms]
   have hd:decide ((i:Int)<((ms.map SumR.row).length:Int))=true:=by simp;omega
   have hmk:0<=m.kind/\m.kind<=4:=by have:=hkind m (kag hms);omega
   by_cases hf:m.lo<=zbo ss am m.kind.toNat m.a ss.length/\zbo ss am m.kind.toNat m.a ss.length<=m.hi
   .have hdk:decide (m.lo<=zbo ss am m.kind.toNat m.a ss.length/\zbo ss am m.kind.toNat m.a ss.length<=m.hi)=true:=oa hf
    have hsucc:il (zao ss ms am (i+1))=il (zao ss ms am i):=by rw [zcr,show ms.getD i ⟨0,0,0,0,false⟩=m from hgm,zd3,hdk];simp
    (repeat' (first|refine sx ?_|(refine aZ ?_;intros)|refine ctn0 ?_|fail));refine⟨hlt,?_⟩;exact si
   .have hdk:decide (m.lo<=zbo ss am m.kind.toNat m.a ss.length/\zbo ss am m.kind.toNat m.a ss.length<=m.hi)=false:=oa hf
    have hsucc:il (zao ss ms am (i+1))=il (zao ss ms am i)++[[vi i]]:=by rw [zcr,show ms.getD i ⟨0,0,0,0,false⟩=m from hgm,zd3,hdk];simp
    (repeat' (first|refine sx ?_|(refine aZ ?_;intros)|refine ctn0 ?_|fail));refine⟨hlt,?_⟩;refine zbg (rn1 1000 35) ?_ rfl rfl;exact sr
  .have he:i=ms.length:=oc
   subst he;have hd:decide ((ms.length:Int)<((ms.map SumR.row).length:Int))=false:=od
   (repeat' (first|refine sx ?_|(refine aZ ?_;intros)|refine ctn0 ?_|fail));refine fe ?_;rfl
theorem etn0{G:Prop}(h:G:=by((repeat' (first|refine sx ?_|(refine aZ ?_;intros)|refine w0 ?_|fail));refine⟨hlt,?_⟩;exact si)):G:=h
theorem zx3(most:Int)(ss:List Slip)(ms:List SumR)(p:zd6)(hn:ss.length<=6)(hfor:∀(i:Nat) (s:Slip),ss[i]?=some s->s.kind=5->0<=s.for_/\s.for_<(i:Int)) :
  AFn (cx G) 58 [bk most ss ms,psA p] (amA (zhq ss p.1 p.2 ss.length)):=by
 refine aby Tryz.func58 Tryz.ntmps58 λQ hQ=>?_
 (repeat' (first|refine sx ?_|(refine aZ ?_;intros)|refine w0 ?_|fail))
 refine zam ss.length (λi=>[(2*10,.av (.sl 7 (ss.map Slip.row))),(2*11,.av (vi ((ss.map Slip.row).length:Int))),(2*3,.av (.ptr 3 0)),(2*3+1,.cells 104 (psL p)),(2*4,.av (.ptr 4 0)),(2*4+1,.cells 99 (amL [0,0,0,0,0,0])),(2*5,.av (.ptr 5 0)),(2*5+1,.cells 99 (amL (zhq ss p.1 p.2 i))),(2*12,.av (vi i))]) ?_ ?_
 .exact si
 .intro i hi;have hl6:=zfy ss p.1 p.2 i;rcases kae i ss.length with hlt|hge
  .obtain⟨s,hs⟩:∃s,ss[i]?=some s:=⟨_,kaa oc⟩;have hrow:(ss.map Slip.row)[i]?=some s.row:=by simp [hs]
   have hil:i<(ss.map Slip.row).length:=by simp;omega
   have hg:ss.getD i ⟨0,0,0,0,0,0,0⟩=s:=by simp [hs]
   have hd:decide ((i:Int)<((ss.map Slip.row).length:Int))=true:=by simp;omega
   have hi6:i<6:=oc
   have hx1:=z9y p hi6;have hx2:=zvw p hi6;have hxl:0+i*1<(amL (zhq ss p.1 p.2 i)).length:=by rw [zqm];omega
   by_cases hk:s.kind=5
   .have hdk:decide (s.kind=5)=true:=oa hk
    have hf5:=hfor i s hs hk;obtain⟨f,hf⟩:∃f:Nat,s.for_=(f:Int):=⟨s.for_.toNat,oc⟩;have hf6:f<6:=oc
    have hxf:0+f*1<(amL (zhq ss p.1 p.2 i)).length:=by rw [zqm];omega
    cases hsg:p.2.getD i false with
    | false =>
      have hsucc:amL (zhq ss p.1 p.2 (i+1))=amL (zhq ss p.1 p.2 i):=by simp only [zhq];rw [hg,if_pos hk,hsg];rfl
      rw [hsg] at hx2;exact etn0
    | true =>
      have hsucc:amL (zhq ss p.1 p.2 (i+1))=(amL (zhq ss p.1 p.2 i)).set (0+f*1) (vi (p.1.getD i 0)):=by simp only [zhq];rw [hg,if_pos hk,hsg,hf,zut _ hl6 hf6];rfl
      rw [hsg] at hx2;exact etn0
   .have hdk:decide (s.kind=5)=false:=oa hk
    have hsucc:amL (zhq ss p.1 p.2 (i+1))=(amL (zhq ss p.1 p.2 i)).set (0+i*1) (vi (p.1.getD i 0)):=by simp only [zhq];rw [hg,if_neg hk,zut _ hl6 hi6]
    exact etn0
  .have he:i=ss.length:=oc
   subst he;have hd:decide ((ss.length:Int)<((ss.map Slip.row).length:Int))=false:=od
   (repeat' (first|refine sx ?_|(refine aZ ?_;intros)|refine w0 ?_|fail));refine fe ?_;rfl
end
section
variable{G:zbf}{u:Nat->ByteArray}{E:Env}{w:World}
attribute [local irreducible] AOp AW ADr AFn ze1 AFt AOpJ
set_option maxRecDepth 20000
set_option maxHeartbeats 8000000
theorem all6{p:Nat->Bool}{j:Nat}(hj:j<6)(h:p j=false):(List.range 6).all p=false:=by rw [List.all_eq_false];exact⟨j,ka3.2 hj,by simp [h]⟩
theorem eto0{G:Prop}(h:G:=by((repeat' (first|refine sx ?_|(refine aZ ?_;intros)|refine w0 ?_|fail));refine⟨hlt,?_⟩;exact si)):G:=h
theorem eto1{G:Prop}(h:G:=by((repeat' (first|refine sx ?_|(refine aZ ?_;intros)|refine w0 ?_|fail));refine fe ?_;rfl)):G:=h
theorem zlc(most:Int)(ss:List Slip)(ms:List SumR)(am:List Int)(hn:ss.length<=6)(hfor:∀(i:Nat) (s:Slip),ss[i]?=some s->s.kind=3->0<=s.for_/\s.for_<(i:Int))(hab:zhn am) :
  AFn (cx G) 60 [bk most ss ms,amA am] (vb (zdg ss am)):=by
 refine aby Tryz.func60 Tryz.ntmps60 λQ hQ=>?_
 (repeat' (first|refine sx ?_|(refine aZ ?_;intros)|refine w0 ?_|fail))
 refine zam ss.length (λi=>[(2*12,.av (.sl 7 (ss.map Slip.row))),(2*13,.av (vi ((ss.map Slip.row).length:Int))),(2*3,.av (.ptr 3 0)),(2*3+1,.cells 99 (amL am)),(2*5,.av (.ptr 5 0)),(2*5+1,.cells 97 (amL (zcx ss am i))),(2*14,.av (vi i))]) ?_ ?_
 .exact si
 .intro i hi;have hl6:=zm6 ss am i;rcases kae i ss.length with hlt|hge
  .obtain⟨s,hs⟩:∃s,ss[i]?=some s:=⟨_,kaa oc⟩;have hrow:(ss.map Slip.row)[i]?=some s.row:=by simp [hs]
   have hil:i<(ss.map Slip.row).length:=by simp;omega
   have hg:ss.getD i ⟨0,0,0,0,0,0,0⟩=s:=by simp [hs]
   have hd:decide ((i:Int)<((ss.map Slip.row).length:Int))=true:=by simp;omega
   have hi6:i<6:=oc
   have hx1:=zm9 am hi6;have hxb:=hab i;by_cases hk:s.kind=3
   .have hdk:decide (s.kind=3)=true:=oa hk
    have hf5:=hfor i s hs hk;obtain⟨f,hf⟩:∃f:Nat,s.for_=(f:Int):=⟨s.for_.toNat,oc⟩;have hf6:f<6:=oc
    have hx2:=zm9 (zcx ss am i) hf6;have hbl:=zw1 ss am hab i f;have hxf:0+f*1<(amL (zcx ss am i)).length:=by rw [zqm];omega
    have hsucc:amL (zcx ss am (i+1))=(amL (zcx ss am i)).set (0+f*1) (vi ((zcx ss am i).getD f 0+am.getD i 0)):=by simp only [zcx];rw [hg,if_pos hk,hf,zut _ hl6 hf6];rfl
    exact eto0
   .have hdk:decide (s.kind=3)=false:=oa hk
    have hsucc:amL (zcx ss am (i+1))=amL (zcx ss am i):=by simp only [zcx];rw [hg,if_neg hk]
    exact eto0
  .have he:i=ss.length:=oc
   subst he;have hd:decide ((ss.length:Int)<((ss.map Slip.row).length:Int))=false:=od
   (repeat' (first|refine sx ?_|(refine aZ ?_;intros)|refine w0 ?_|fail));refine zbe 6 (λj=>∀k,k<j->(zcx ss am ss.length).getD k 0<=am.getD k 0) (λj=>[(2*3,.av (.ptr 3 0)),(2*3+1,.cells 99 (amL am)),(2*33,.av (amA (zcx ss am ss.length))),(2*34,.av (vi j))]) (λk hk=>oc) ?_ ?_
   .exact si
   .intro j hj hP;rcases kae j 6 with hlt|hge
    .have hd:decide ((j:Int)<6)=true:=by simp;omega
     have hx3:=z6w (zcx ss am ss.length) hlt;have hx4:=zm9 am hlt;by_cases hle:(zcx ss am ss.length).getD j 0<=am.getD j 0
     .have hdl:decide (am.getD j 0<(zcx ss am ss.length).getD j 0)=false:=oa hle
      (repeat' (first|refine sx ?_|(refine aZ ?_;intros)|refine w0 ?_|fail));refine g1 (h:=⟨z3f oe rfl rfl zgi rfl rfl rfl rfl hlt hx3,zuk⟩) ?_;(repeat' (first|refine sx ?_|(refine aZ ?_;intros)|refine w0 ?_|fail));refine⟨hlt,λk hk=>?_,?_⟩
      .rcases kae k j with h1|h1
       .exact hP k h1
       .have:k=j:=oc
        subst this;exact hle
      .exact si
     .have hdl:decide (am.getD j 0<(zcx ss am ss.length).getD j 0)=true:=oa hle
      have hres:zdg ss am=false:=all6 hlt (oa hle);rw [hres] at hQ;(repeat' (first|refine sx ?_|(refine aZ ?_;intros)|refine w0 ?_|fail));refine g1 (h:=⟨z3f oe rfl rfl zgi rfl rfl rfl rfl hlt hx3,zuk⟩) ?_;exact eto1
    .have he:j=6:=oc
     subst he;have hres:zdg ss am=true:=by unfold zdg;rw [kar];intro k hk;exact decide_eq_true (hP k (ka3.1 hk))
     rw [hres] at hQ;exact eto1
end
section
variable{G:zbf}{u:Nat->ByteArray}{E:Env}{w:World}
attribute [local irreducible] AOp AW ADr AFn ze1 AFt AOpJ
set_option maxRecDepth 20000
set_option maxHeartbeats 8000000
theorem zmk{p:Int->Bool}{l:List Int}(h:∀i,i<l.length->p (l.getD i 0)=false):z5i p l=-1:=by
 have:l.findIdx? p=none:=kcb.2 λy hy=>by obtain⟨i,hi⟩:=kba hy;have:=h i (kab.1 hi).1;simpa [hi] using this
 simp [z5i,this]
theorem zua{p:Int->Bool}{l:List Int}{i:Nat}(hi:i<l.length)(h:∀j,j<i->p (l.getD j 0)=false)(hx:p (l.getD i 0)=true):z5i p l=i:=by
 have:l.findIdx? p=some i:=by rw [kbk];refine⟨hi,by simpa [hi] using hx,λj hj=>?_⟩;have h1:=h j hj;simpa [kd1 hj hi] using h1
 simp [z5i,this]
theorem ctp0{P G:Prop}(n:P)(h:Wr P->G:=by(intro n;first|((with_reducible apply kC);first|exact gB ⟨_,hf _ hzm,.mk rfl n.p⟩|exact gK n.p|exact gS n.p)|exact⟨_,hf _ hzm,n.p⟩|exact sk n.p|exact ap n.p)):G:=h ⟨n⟩
theorem yce(l:List Int)(f:FuncId)(p:Int->Bool)(hl:l.length<=100000)(hf:∀x∈l,AFn (cx G) f (vi x::[]) (vb (p x))):AFn (cx G) 161 [.sl 1 (il l),.fn (.func f)  [] []] (vi (z5i p l)):=by
 refine aby Tryz.func161 Tryz.ntmps161 λQ hQ=>?_;(repeat' (first|refine sx ?_|(refine aZ ?_;intros)|refine ctp0 ?_|fail));refine zbe l.length (λi=>∀j,j<i->p (l.getD j 0)=false) (λi=>[(2*0,.av (.sl 1 (il l))),(2*1,.av (.fn (.func f)  [] [])),(2*7,.av (vi ((il l).length:Int))),(2*8,.av (vi i))]) (λj hj=>oc) ?_ ?_
 .exact si
 .intro i hi hP;rcases kae i l.length with hlt|hge
  .obtain⟨z,hz⟩:∃z,l[i]?=some z:=⟨_,kaa hlt⟩;have hzr:(il l)[i]?=some [vi z]:=zcm hz;have hzl:i<(il l).length:=by simp;omega
   have hgz:l.getD i 0=z:=by simp [hz]
   have hzm:z∈l:=kag hz;have hd:decide ((i:Int)<((il l).length:Int))=true:=by simp;omega
   cases hx:p z with
   | true =>(repeat' (first|refine sx ?_|(refine aZ ?_;intros)|refine ctp0 ?_|fail));refine fe ?_;rw [zua hlt hP (by rw [hgz,hx])]
   | false =>
     (repeat' (first|refine sx ?_|(refine aZ ?_;intros)|refine ctp0 ?_|fail));refine⟨hlt,λj hj=>?_,?_⟩
     .rcases kae j i with h|h
      .exact hP j h
      .have:j=i:=oc
       subst this;rw [hgz];exact hx
     .exact si
  .have he:i=l.length:=oc
   subst he;have hd:decide ((l.length:Int)<((il l).length:Int))=false:=od
   (repeat' (first|refine sx ?_|(refine aZ ?_;intros)|refine ctp0 ?_|fail));refine fe ?_;rw [zmk hP]
theorem ctp1{P G:Prop}(n:P)(h:Wr P->G:=by(intro n;first|((with_reducible apply kC);first|exact gB ⟨_,hf _ hzm,.mk rfl n.p⟩|exact gK n.p|exact gS n.p)|exact⟨_,hf _ hzm,n.p⟩|exact sk n.p|exact ap n.p)):G:=h ⟨n⟩
theorem zoh(l:List Int)(f:FuncId)(w1:Nat)(r1:List (List AV))(p:Int->Bool)(hl:l.length<=100000)(hf:∀x∈l,AFn (cx G) f (vi x::[.elt w1 r1 0 0]) (vb (p x))):AFn (cx G) 161 [.sl 1 (il l),.fn (.func f)  [] [.elt w1 r1 0 0]] (vi (z5i p l)):=by
 refine aby Tryz.func161 Tryz.ntmps161 λQ hQ=>?_;(repeat' (first|refine sx ?_|(refine aZ ?_;intros)|refine ctp1 ?_|fail));refine zbe l.length (λi=>∀j,j<i->p (l.getD j 0)=false) (λi=>[(2*0,.av (.sl 1 (il l))),(2*1,.av (.fn (.func f)  [] [.elt w1 r1 0 0])),(2*7,.av (vi ((il l).length:Int))),(2*8,.av (vi i))]) (λj hj=>oc) ?_ ?_
 .exact si
 .intro i hi hP;rcases kae i l.length with hlt|hge
  .obtain⟨z,hz⟩:∃z,l[i]?=some z:=⟨_,kaa hlt⟩;have hzr:(il l)[i]?=some [vi z]:=zcm hz;have hzl:i<(il l).length:=by simp;omega
   have hgz:l.getD i 0=z:=by simp [hz]
   have hzm:z∈l:=kag hz;have hd:decide ((i:Int)<((il l).length:Int))=true:=by simp;omega
   cases hx:p z with
   | true =>(repeat' (first|refine sx ?_|(refine aZ ?_;intros)|refine ctp1 ?_|fail));refine fe ?_;rw [zua hlt hP (by rw [hgz,hx])]
   | false =>
     (repeat' (first|refine sx ?_|(refine aZ ?_;intros)|refine ctp1 ?_|fail));refine⟨hlt,λj hj=>?_,?_⟩
     .rcases kae j i with h|h
      .exact hP j h
      .have:j=i:=oc
       subst this;rw [hgz];exact hx
     .exact si
  .have he:i=l.length:=oc
   subst he;have hd:decide ((l.length:Int)<((il l).length:Int))=false:=od
   (repeat' (first|refine sx ?_|(refine aZ ?_;intros)|refine ctp1 ?_|fail));refine fe ?_;rw [zmk hP]
theorem ctp3{P G:Prop}(n:P)(h:Wr P->G:=by(intro n;first|((with_reducible apply kC);first|exact gB ⟨_,zoh _ _ _ _ _ hl hf,.mk rfl n.p⟩|exact gK n.p|exact gS n.p)|exact⟨_,zoh _ _ _ _ _ hl hf,n.p⟩|exact sk n.p|exact ap n.p)):G:=h ⟨n⟩
theorem zi6(l:List Int)(f:FuncId)(w1:Nat)(r1:List (List AV))(p:Int->Bool)(hl:l.length<=100000)(hf:∀x∈l,AFn (cx G) f [vi x,.elt w1 r1 0 0] (vb (p x))):AFn (cx G) 123 [.sl 1 (il l),.fn (.func f) [] [.elt w1 r1 0 0]] (vb (l.any p)):=by refine aby Tryz.func123 Tryz.ntmps123 λQ hQ=>?_;(repeat' (first|refine sx ?_|(refine aZ ?_;intros)|refine ctp3 ?_|fail));refine fe ?_;rw [z1c]
abbrev zqu(most:Int)(ss:List Slip)(ms:List SumR):AV:=.elt 3 [[vi most,.sl 7 (ss.map Slip.row),.sl 5 (ms.map SumR.row)]] 0 0
theorem z8f(most:Int)(ss:List Slip)(ms:List SumR)(i:Int)(hi:0<=i/\i<(ms.length:Int)):AFn (cx G) 124 [vi i,zqu most ss ms] (vb (ms.getD i.toNat d5).firm):=by
 obtain⟨n,rfl⟩:∃n:Nat,i=(n:Int):=⟨i.toNat,oc⟩;obtain⟨m,hms⟩:∃m,ms[n]?=some m:=⟨_,kaa oc⟩;have hrow:(ms.map SumR.row)[n]?=some m.row:=by simp [hms]
 have hjr:n<(ms.map SumR.row).length:=by simp;omega
 have hgm:ms.getD n d5=m:=by simp [hms]
 simp only [kb9];refine aby Tryz.func124 Tryz.ntmps124 λQ hQ=>?_;rw [hgm] at hQ;(repeat' (first|refine sx ?_|(refine aZ ?_;intros)|refine w0 ?_|fail));refine fe ?_;rfl
theorem ctp4{P G:Prop}(n:P)(h:Wr P->G:=by(intro n;first|((with_reducible apply kC);first|exact gB ⟨_,zi6 _ _ _ _ (λi=>(ms.getD i.toNat d5).firm) hl λx hx=>z8f most ss ms x (hin x hx),.mk rfl n.p⟩|exact gK n.p|exact gS n.p)|exact⟨_,zi6 _ _ _ _ (λi=>(ms.getD i.toNat d5).firm) hl λx hx=>z8f most ss ms x (hin x hx),n.p⟩|exact sk n.p|exact ap n.p)):G:=h ⟨n⟩
theorem z8e(most:Int)(ss:List Slip)(ms:List SumR)(xs:List Int)(hl:xs.length<=100000)(hin:∀x∈xs,0<=x/\x<(ms.length:Int)) :
  AFn (cx G) 61 [bk most ss ms,.sl 1 (il xs)] (vb (ybf ms xs)):=by
 refine aby Tryz.func61 Tryz.ntmps61 λQ hQ=>?_
 (repeat' (first|refine sx ?_|(refine aZ ?_;intros)|refine ctp4 ?_|fail))
 refine fe ?_
 rfl
theorem zd8(ss:List Slip)(ms:List SumR)(am:List Int):(zan ss ms am).length<=ms.length:=by unfold zan zao;rw [ka6];exact kak (kbc _ _) od
theorem ctp5{P G:Prop}(n:P)(h:Wr P->G:=by(intro n;first|((with_reducible apply kC);first|exact gB ⟨_,zgh most ss ms am hb.nss hb.nms hb.kind hab,.mk rfl n.p⟩|exact gB ⟨_,hcan,.mk rfl n.p⟩|exact gB ⟨_,zlc most ss ms am hb.nss hb.for3 hab,.mk rfl n.p⟩|exact gK n.p|exact gS n.p)|exact⟨_,zgh most ss ms am hb.nss hb.nms hb.kind hab,n.p⟩|exact⟨_,hcan,n.p⟩|exact⟨_,zlc most ss ms am hb.nss hb.for3 hab,n.p⟩|exact sk n.p|exact ap n.p)):G:=h ⟨n⟩
theorem etp0{G:Prop}(h:G:=by((repeat' (first|refine sx ?_|(refine aZ ?_;intros)|refine ctp5 ?_|fail));refine fe ?_;rfl)):G:=h
theorem zsw(most:Int)(ss:List Slip)(ms:List SumR)(am:List Int)(hb:z80 ss ms)(hab:zhn am) :
  AFn (cx (zch u)) 90 [bk most ss ms,amA am] (vb (zeh most ss ms am)):=by
 refine aby Tryz.func90 Tryz.ntmps90 λQ hQ=>?_
 have hwl:(zan ss ms am).length<=100000:=by have:=zd8 ss ms am;have:=hb.nms;omega
 have hil:((il (zan ss ms am)).length:Int)=(zan ss ms am).length:=od
 by_cases h1:((zan ss ms am).length:Int)<=most
 .have hd1:decide (((il (zan ss ms am)).length:Int)<=most)=true:=by rw [hil];simpa using h1
  have hcan:=z8e (G:=zch u) most ss ms (zan ss ms am) hwl (zd9 _ _ _);cases h2:ybf ms (zan ss ms am) with
  | true =>
    have hr:zeh most ss ms am=zdg ss am:=by simp [zeh,h1,h2]
    rw [hr] at hQ;rw [h2] at hcan;exact etp0
  | false =>
    have hr:zeh most ss ms am=false:=by simp [zeh,h1,h2]
    rw [hr] at hQ;rw [h2] at hcan;exact etp0
 .have hd1:decide (((il (zan ss ms am)).length:Int)<=most)=false:=by rw [hil];simpa using h1
  have hr:zeh most ss ms am=false:=by simp [zeh,h1]
  rw [hr] at hQ;exact etp0
end
section
variable{G:zbf}{u:Nat->ByteArray}{E:Env}{w:World}
abbrev encP(p:zd6):Array Value:=#[z0a p.1 p.2]
theorem zvq{us:List Value}{v:Value}(h:Rep E w (.agg (us.map AV.val)) v):v=.agg us.toArray:=by
 cases h with
 | agg xs vs hl h =>
   have:vs=us:=by refine List.ext_getElem (oa hl.symm) λi h1 h2=>?_;exact(h i (.val us[i]) vs[i] (by simp [h2]) (by simp [h1])).val_eq
   rw [this]
theorem ztp{p:zd6}{v:Value}(h:Rep E w (psA p) v):v=z0a p.1 p.2 :=
 zvq (us:=[.int .i64 (p.1.getD 0 0),.int .i64 (p.1.getD 1 0),.int .i64 (p.1.getD 2 0),.int .i64 (p.1.getD 3 0),.int .i64 (p.1.getD 4 0),.int .i64 (p.1.getD 5 0),.bool (p.2.getD 0 false),.bool (p.2.getD 1 false),.bool (p.2.getD 2 false),.bool (p.2.getD 3 false),.bool (p.2.getD 4 false),.bool (p.2.getD 5 false)]) h
theorem ztq{l:List Int}{v:Value}(h:Rep E w (amA l) v):v=.agg #[.int .i64 (l.getD 0 0),.int .i64 (l.getD 1 0),.int .i64 (l.getD 2 0),.int .i64 (l.getD 3 0),.int .i64 (l.getD 4 0),.int .i64 (l.getD 5 0)] :=
 zvq (us:=[.int .i64 (l.getD 0 0),.int .i64 (l.getD 1 0),.int .i64 (l.getD 2 0),.int .i64 (l.getD 3 0),.int .i64 (l.getD 4 0),.int .i64 (l.getD 5 0)]) h
theorem z4x(pw:List Int)(sg:List Bool)(hl:pw.length=6){i:Nat}(h:i<6)(n:Int):(psL (pw,sg)).set (0+i*1) (vi n)=psL (pw.set i n,sg):=by obtain⟨x0,x1,x2,x3,x4,x5,rfl⟩:=z5b pw hl;rcases lt6 h with rfl|rfl|rfl|rfl|rfl|rfl<;>rfl
theorem zvu(pw:List Int)(sg:List Bool)(hl:sg.length=6){i:Nat}(h:i<6)(n:Bool):(psL (pw,sg)).set (6+i*1) (vb n)=psL (pw,sg.set i n):=by obtain⟨x0,x1,x2,x3,x4,x5,rfl⟩:=z0y sg hl;rcases lt6 h with rfl|rfl|rfl|rfl|rfl|rfl<;>rfl
def zmc(most:Int)(ss:List Slip)(ms:List SumR)(l:Nat):Nat->AV
 | 0=>.fn (.func 122) [] [zqu most ss ms,.elt 1 [[.val (.func (.yield l) #[] #[])]] 0 0,.elt 0 [] 0 0]
 | m+1=>.fn (.func 122) [] [zqu most ss ms,.elt 1 [[.val (.func (.yield l) #[] #[])]] 0 0,.elt 1 [[zmc most ss ms l m]] 0 0]
def zub(ss:List Slip)(s:Slip)(m i:Nat)(pw:List Int)(sg:List Bool)(n:Int):List zd6 :=
 (if s.signed≠1 then zks ss m (i+1) (pw.set i n) (sg.set i false) else [])++(if s.kind=5/\s.signed≠2 then zks ss m (i+1) (pw.set i n) (sg.set i true) else [])
theorem zvp{α:Type}{d:α}(l:List α){i:Nat}:l.set i (l.getD i d)=l:=by
 rcases kae i l.length with h|h
 .have:l.getD i d=l[i]:=by simp [h]
  rw [this];exact kc9 h
 .exact List.set_eq_of_length_le h
theorem zpk{α:Type}(l:List α)(i:Nat)(a b:α):(l.set i a).set i b=l.set i b:=od
attribute [local irreducible] AOp AW ADr AFn ze1 AFt AOpJ
set_option maxRecDepth 20000
set_option maxHeartbeats 16000000
attribute [local irreducible] yca AWJ
theorem etq0{G:Prop}(h:G:=by((repeat' (first|refine sx ?_|refine w0 ?_|fail));refine⟨(q+1,n,true),?_,by rw [hend,hB0];simp,oc⟩;exact si)):G:=h
theorem z7y(l:Nat)(most:Int)(ss:List Slip)(ms:List SumR)(hn:ss.length<=6)(hlo:∀s∈ss,0<=s.lo/\s.hi<=999)(xs:List zd6):∀(m i:Nat) (pw:List Int) (sg:List Bool) (out rest:List zd6),i+m=ss.length->pw.length=6->sg.length=6->xs=out++(zks ss m i pw sg++rest)->
  yca (cx G) 122 [psA (pw,sg),vi i,zqu most ss ms,.elt 1 [[.val (.func (.yield l) #[] #[])]] 0 0,.elt 1 [[zmc most ss ms l m]] 0 0] (.bool true) l encP xs out (out++zks ss m i pw sg)
 | 0,i,pw,sg,out,rest,him,hpw,hsg,hxs=>by
   have hi:i=ss.length:=oc
   subst hi;refine z20 Tryz.func122 rfl Tryz.ntmps122 rfl rfl rfl λPost Jx n hA=>?_;have hd:decide ((ss.length:Int)=((ss.map Slip.row).length:Int))=true:=od
   refine znl λP hP=>?_;(repeat' (first|refine sx ?_|refine w0 ?_|fail));refine zcq (znl λP hP=>?_);(repeat' (first|refine sx ?_|refine w0 ?_|fail));refine zga (b:=true) (by rw [<-hd];rfl) ?_;refine zcq (zb0 hA ?_);(repeat' (first|refine j1 ?_|refine jF ?_|refine jE ?_));refine jY0 ?_ (λE w vs h=>?_) hxs
   ·(repeat' (first|refine j1 ?_|refine jF ?_|refine jE ?_));exact awjR ⟨.inr rfl,rfl,rfl⟩
   .obtain⟨v,vs,rfl,h1,h2⟩:=h.inv;have:vs=[]:=kas h2.1.symm;subst this;rw [ztp h1]
 | m+1,i,pw,sg,out,rest,him,hpw,hsg,hxs=>by
   have IH:=z7y l most ss ms hn hlo xs m;refine z20 Tryz.func122 rfl Tryz.ntmps122 rfl rfl rfl λPost Jx n hA=>?_;have hlt:i<ss.length:=oc
   have hi6:i<6:=oc
   obtain⟨s,hs⟩:∃s,ss[i]?=some s:=⟨_,kaa hlt⟩;have hrow:(ss.map Slip.row)[i]?=some s.row:=by simp [hs]
   have hil:i<(ss.map Slip.row).length:=oa hlt
   have hg:ss.getD i ⟨0,0,0,0,0,0,0⟩=s:=by simp [hs]
   have hd:decide ((i:Int)=((ss.map Slip.row).length:Int))=false:=by simp;omega
   have hb:=hlo s (kag hs);have hgen:zks ss (m+1) i pw sg=(zbr s.lo s.hi).flatMap (zub ss s m i pw sg):=by simp only [zks];rw [hg];rfl
   rw [hgen] at hxs |-;refine znl λP hP=>?_;(repeat' (first|refine sx ?_|refine w0 ?_|fail));refine znl λP hP=>?_;(repeat' (first|refine sx ?_|(refine aZ ?_;intros)|refine w0 ?_|fail));refine znl λP hP=>?_;(repeat' (first|refine sx ?_|refine w0 ?_|fail));refine zcq (znl λP hP=>?_);(repeat' (first|refine sx ?_|refine w0 ?_|fail))
   refine zi8 (z6n (ι:=Nat×Int×Bool) (λq=>[(2*1,.av (vi i)),(2*4,.av (.elt 1 [[zmc most ss ms l (m+1)]] 0 0)),(2*5,.av (.ptr 5 0)),(2*5+1,.cells 104 (psL (pw.set i q.2.1,sg.set i q.2.2))),(2*8,.av (.ptr 8 0)),(2*8+1,.cells 36 s.row),(2*9,.av (vi (s.lo+(q.1:Int))))])
    (λq=>out++((zbr s.lo s.hi).take q.1).flatMap (zub ss s m i pw sg)) (λq=>1000-q.1) (0,pw.getD i 0,sg.getD i false) ?_ od ?_)
   .have h0:psL (pw.set i (pw.getD i 0),sg.set i (sg.getD i false))=psL (pw,sg):=by rw [zvp pw,zvp sg]
    have hz:vi (s.lo+((0:Nat):Int))=vi s.lo:=od
    exact si
   rintro⟨q,a,b⟩;by_cases hle:s.lo+(q:Int)<=s.hi;case neg =>
    have hdl:decide (s.lo+(q:Int)<=s.hi)=false:=oa hle
    have htake:(zbr s.lo s.hi).take q=zbr s.lo s.hi:=kb4 (by simp only [zbr,ka6,List.length_range];omega);refine zcq (znl λP hP=>?_);(repeat' (first|refine sx ?_|refine w0 ?_|fail));refine zga (b:=false) (by rw [<-hdl];rfl) (awjX ?_);refine znl λP hP=>?_;(repeat' (first|refine sx ?_|refine w0 ?_|fail));refine awjR ⟨.inr rfl,?_,rfl⟩;rw [htake]
   have hdl:decide (s.lo+(q:Int)<=s.hi)=true:=oa hle
   obtain⟨ht1,ht2⟩:=znw s.lo s.hi q hle;obtain⟨n,hnq⟩:∃n,n=s.lo+(q:Int):=⟨_,rfl⟩;rw [<-hnq] at ht1 ht2;have hstep:((zbr s.lo s.hi).take (q+1)).flatMap (zub ss s m i pw sg)=((zbr s.lo s.hi).take q).flatMap (zub ss s m i pw sg)++zub ss s m i pw sg n:=by rw [ht1];simp
   have hall:(zbr s.lo s.hi).flatMap (zub ss s m i pw sg)=((zbr s.lo s.hi).take q).flatMap (zub ss s m i pw sg)++(zub ss s m i pw sg n++((zbr s.lo s.hi).drop (q+1)).flatMap (zub ss s m i pw sg)):=by have:=congrArg (List.flatMap (zub ss s m i pw sg)) ht2;rw [List.flatMap_append,keb] at this;exact this
   have hpl:0+i*1<(psL (pw.set i a,sg.set i b)).length:=by show 0+i*1<12;omega
   have hs1:(psL (pw.set i a,sg.set i b)).set (0+i*1) (vi (s.lo+(q:Int)))=psL (pw.set i n,sg.set i b):=by rw [<-hnq,z4x _ _ (by simp [hpw]) hi6,zpk]
   have hs2:(psL (pw.set i n,sg.set i b)).set (6+i*1) (vb false)=psL (pw.set i n,sg.set i false):=by rw [zvu _ _ (by simp [hsg]) hi6,zpk]
   have hs3:(psL (pw.set i n,sg.set i false)).set (6+i*1) (vb true)=psL (pw.set i n,sg.set i true):=by rw [zvu _ _ (by simp [hsg]) hi6,zpk]
   have hp2:6+i*1<(psL (pw.set i n,sg.set i b)).length:=by show 6+i*1<12;omega
   have hp3:6+i*1<(psL (pw.set i n,sg.set i false)).length:=by show 6+i*1<12;omega
   have hlo1:-10000<=s.lo+(q:Int)/\s.lo+(q:Int)<=10000:=oc
   clear hnq ht1 ht2;refine znl λP hP=>?_;(repeat' (first|refine sx ?_|(refine aZ ?_;intros)|refine w0 ?_|fail));refine zcq (zi8 (znl λP hP=>?_));(repeat' (first|refine sx ?_|refine w0 ?_|fail))
   refine zw2 (s':=[(2*1,.av (vi i)),(2*4,.av (.elt 1 [[zmc most ss ms l (m+1)]] 0 0)),(2*5,.av (.ptr 5 0)),(2*5+1,.cells 104 (psL (pw.set i n,sg.set i b))),(2*8,.av (.ptr 8 0)),(2*8+1,.cells 36 s.row),(2*9,.av (vi (s.lo+(q:Int))))]) oT ?_;refine znl λP hP=>?_;(repeat' (first|refine sx ?_|refine w0 ?_|fail))
   refine zw2 (s':=[(2*1,.av (vi i)),(2*4,.av (.elt 1 [[zmc most ss ms l (m+1)]] 0 0)),(2*5,.av (.ptr 5 0)),(2*5+1,.cells 104 (psL (pw.set i n,sg.set i false))),(2*8,.av (.ptr 8 0)),(2*8+1,.cells 36 s.row),(2*9,.av (vi (s.lo+(q:Int))))]) oT ?_;obtain⟨o0,ho0⟩:∃o0,o0=out++((zbr s.lo s.hi).take q).flatMap (zub ss s m i pw sg):=⟨_,rfl⟩
   obtain⟨tail,htail⟩:∃tail,tail=((zbr s.lo s.hi).drop (q+1)).flatMap (zub ss s m i pw sg)++rest:=⟨_,rfl⟩;obtain⟨A,hAe⟩:∃A,A=(if s.signed≠1 then zks ss m (i+1) (pw.set i n) (sg.set i false) else []):=⟨_,rfl⟩;obtain⟨B,hBe⟩:∃B,B=(if s.kind=5/\s.signed≠2 then zks ss m (i+1) (pw.set i n) (sg.set i true) else []):=⟨_,rfl⟩;have hgn:zub ss s m i pw sg n=A++B:=by rw [hAe,hBe];rfl
   have hx0:xs=o0++(A++(B++tail)):=by rw [hxs,hall,hgn,ho0,htail];simp
   have hend:out++((zbr s.lo s.hi).take (q+1)).flatMap (zub ss s m i pw sg)=(o0++A)++B:=by rw [hstep,hgn,ho0];simp
   clear hstep hall;show AWJ Post Jx _ (cx G) none 72 _ _ (out++((zbr s.lo s.hi).take q).flatMap (zub ss s m i pw sg)) _;rw [<-ho0];refine ybj (λo=>o=o0++A) [(2*1,.av (vi i)),(2*4,.av (.elt 1 [[zmc most ss ms l (m+1)]] 0 0)),(2*5,.av (.ptr 5 0)),(2*5+1,.cells 104 (psL (pw.set i n,sg.set i false))),(2*8,.av (.ptr 8 0)),(2*8+1,.cells 36 s.row),(2*9,.av (vi (s.lo+(q:Int))))] ?_ ?_
   .by_cases h1:s.signed=1
    .have hd1:decide (s.signed=1)=true:=oa h1
     have hA0:A=[]:=by rw [hAe,if_neg (oa h1)]
     refine zcq (zb0 hA ?_);(repeat' (first|refine j1 ?_|refine jF ?_|refine jE ?_));rw [hd1];(repeat' (first|refine j1 ?_|refine jF ?_|refine jE ?_));refine zga (b:=false) rfl (yer ⟨rfl,by rw [hA0];simp,?_⟩);exact si
    .have hd1:decide (s.signed=1)=false:=oa h1
     have hA0:A=zks ss m (i+1) (pw.set i n) (sg.set i false):=by rw [hAe,if_pos h1]
     rw [hA0] at hx0 |-;refine zcq (zb0 hA ?_);(repeat' (first|refine j1 ?_|refine jF ?_|refine jE ?_));rw [hd1];(repeat' (first|refine j1 ?_|refine jF ?_|refine jE ?_));refine jZ ⟨_,_,IH (i+1) (pw.set i n) (sg.set i false) o0 _ oc (by simp [hpw]) (by simp [hsg]) hx0,?_⟩;(repeat' (first|refine j1 ?_|refine jF ?_|refine jE ?_));refine zga (b:=false) rfl (yer ⟨rfl,rfl,?_⟩);exact si
   rintro _ rfl;refine znl λP hP=>?_;(repeat' (first|refine sx ?_|refine w0 ?_|fail));refine zw2 (s':=[(2*1,.av (vi i)),(2*4,.av (.elt 1 [[zmc most ss ms l (m+1)]] 0 0)),(2*5,.av (.ptr 5 0)),(2*5+1,.cells 104 (psL (pw.set i n,sg.set i true))),(2*8,.av (.ptr 8 0)),(2*8+1,.cells 36 s.row),(2*9,.av (vi (s.lo+(q:Int))))]) oT ?_
   have hq1:vi (s.lo+((q+1:Nat):Int))=vi (s.lo+(q:Int)+1):=by simp [Int.add_assoc]
   by_cases hk:s.kind=5;case neg =>
    have hdk:decide (s.kind=5)=false:=oa hk
    have hB0:B=[]:=by rw [hBe,if_neg (λh=>hk h.1)]
    refine zcq (zb0 hA ?_);(repeat' (first|refine j1 ?_|refine jF ?_|refine jE ?_));rw [hdk];(repeat' (first|refine j1 ?_|refine jF ?_|refine jE ?_));refine zga (b:=false) rfl (yer ?_);refine ybk λP hP=>?_;exact etq0
   have hdk:decide (s.kind=5)=true:=oa hk
   by_cases h2:s.signed=2
   .have hd2:decide (s.signed=2)=true:=oa h2
    have hB0:B=[]:=by rw [hBe,if_neg (λh=>h.2 h2)]
    refine zcq (zb0 hA ?_);(repeat' (first|refine j1 ?_|refine jF ?_|refine jE ?_));rw [hdk];(repeat' (first|refine j1 ?_|refine jF ?_|refine jE ?_));rw [hd2];(repeat' (first|refine j1 ?_|refine jF ?_|refine jE ?_));refine zga (b:=false) rfl (yer ?_);refine ybk λP hP=>?_;exact etq0
   .have hd2:decide (s.signed=2)=false:=oa h2
    have hB0:B=zks ss m (i+1) (pw.set i n) (sg.set i true):=by rw [hBe,if_pos ⟨hk,h2⟩]
    refine zcq (zb0 hA ?_);(repeat' (first|refine j1 ?_|refine jF ?_|refine jE ?_));rw [hdk];(repeat' (first|refine j1 ?_|refine jF ?_|refine jE ?_));rw [hd2];(repeat' (first|refine j1 ?_|refine jF ?_|refine jE ?_));refine jZ ⟨_,_,IH (i+1) (pw.set i n) (sg.set i true) (o0++A) tail oc (by simp [hpw]) (by simp [hsg]) (by rw [hx0,hB0];simp),?_⟩
    (repeat' (first|refine j1 ?_|refine jF ?_|refine jE ?_));refine zga (b:=false) rfl (yer ?_);refine ybk λP hP=>?_;(repeat' (first|refine sx ?_|refine w0 ?_|fail));refine⟨(q+1,n,true),?_,by rw [hend,hB0],oc⟩;exact si
end
section
variable{G:zbf}{u:Nat->ByteArray}{E:Env}{w:World}
theorem zk5(most:Int)(ss:List Slip)(ms:List SumR)(l:Nat):∀m,(zmc most ss ms l m).ids=[]/\(zmc most ss ms l m).atom=true
 | 0=>⟨rfl,rfl⟩
 | _+1=>⟨rfl,rfl⟩
theorem zk0{x:AV}{v:Value}{b:Nat}(hb:E.imm b)(hi:x.ids=[])(ha:x.atom=true)(hc:w.cell? ⟨b,0,none⟩=some v)(h:Rep E w x v):Rep E w (.elt 1 [[x]] 0 0) (.pointer (some ⟨b,0,none⟩)):=by
 have:=Rep.elt (E:=E) (w:=w) 1 [[x]] b 0 0 0 (λ_ _=>v) hb (λrow hr=>by simp at hr;subst hr;rfl) (λi row j y h1 h2=>?_) λi row j y h1 h2=>?_
 .simpa using this
 all_goals
  have hi0:i=0:=by have:=(kab.1 h1).1;simp at this;omega
  subst hi0
  cases h1
  have hj0:j=0:=by have:=(kab.1 h2).1;simp at this;omega
  subst hj0
  cases h2
 .exact⟨hi,ha,oa hc⟩
 .exact h
theorem zz2{most:Int}{ss:List Slip}{ms:List SumR}{l bm by_:Nat}{pb:Value}(hm:E.imm bm)(hy:E.imm by_)(hpb:Rep E w (zqu most ss ms) pb)(hcy:w.cell? ⟨by_,0,none⟩=some (.func (.yield l) #[] #[]))
  (hcm:w.cell? ⟨bm,0,none⟩=some (.func (.func 122) #[] #[pb,.pointer (some ⟨by_,0,none⟩),.pointer (some ⟨bm,0,none⟩)])):∀m,Rep E w (zmc most ss ms l m) (.func (.func 122) #[] #[pb,.pointer (some ⟨by_,0,none⟩),.pointer (some ⟨bm,0,none⟩)]):=by
 have hY:=zk0 (x:=.val (.func (.yield l) #[] #[])) hy rfl rfl hcy (.val _)
 have hfn:∀x,Rep E w x (.pointer (some ⟨bm,0,none⟩))->Rep E w (.fn (.func 122) [] [zqu most ss ms,.elt 1 [[.val (.func (.yield l) #[] #[])]] 0 0,x]) (.func (.func 122) #[] #[pb,.pointer (some ⟨by_,0,none⟩),.pointer (some ⟨bm,0,none⟩)]):=λx hx=>by
  have hl:=((yf1.nil E w).cons hx).cons hY |>.cons hpb
  exact Rep.fn (.func 122) [] [zqu most ss ms,.elt 1 [[.val (.func (.yield l) #[] #[])]] 0 0,x] [] [pb,.pointer (some ⟨by_,0,none⟩),.pointer (some ⟨bm,0,none⟩)] rfl rfl (λi x v h=>by simp at h) hl.2
 intro m
 induction m with
 | zero =>
   refine hfn _ ?_;have:=Rep.elt (E:=E) (w:=w) 0 [] bm 0 0 0 (λ_ _=>.nilFunc) hm (λrow hr=>by cases hr) (λi row j y h1 h2=>by cases h1) λi row j y h1 h2=>by cases h1
   simpa using this
 | succ m ih =>exact hfn _ (zk0 hm (zk5 most ss ms l m).1 (zk5 most ss ms l m).2 hcm ih)
attribute [local irreducible] AOp AW ADr AFn ze1 AFt AOpJ
set_option maxRecDepth 20000
set_option maxHeartbeats 16000000
theorem etr0{G:Prop}(h:G:=by((repeat' (first|refine sx ?_|(refine aZ ?_;intros)|refine w0 ?_|fail));refine fe ?_;rfl)):G:=h
theorem zet(most:Int)(ss:List Slip)(ms:List SumR):AFn (cx G) 57 [bk most ss ms] (.fn (.func 121) [] [zqu most ss ms]):=by refine aby Tryz.func57 Tryz.ntmps57 λQ hQ=>?_;exact etr0
theorem zf2(most:Int)(ss:List Slip)(ms:List SumR):AFn (cx G) 81 [bk most ss ms] (.fn (.func 149) [] [zqu most ss ms]):=by refine aby Tryz.func81 Tryz.ntmps81 λQ hQ=>?_;exact etr0
attribute [local irreducible] yca AWJ
theorem z8k(most:Int)(ss:List Slip)(ms:List SumR)(hn:ss.length<=6)(hlo:∀s∈ss,0<=s.lo/\s.hi<=999):zs6 (cx G) 121 [zqu most ss ms] encP (zgf ss):=by
 refine zwb Tryz.func121 rfl Tryz.ntmps121 rfl rfl rfl rfl λPost l Jx n hA=>?_;refine znl λP hP=>?_;(repeat' (first|refine sx ?_|refine w0 ?_|fail));refine znl λP hP=>?_;(repeat' (first|refine sx ?_|refine w0 ?_|fail));refine znl λP hP=>?_;(repeat' (first|refine sx ?_|refine w0 ?_|fail));refine zb0 hA ?_;(repeat' (first|refine j1 ?_|refine jF ?_|refine jE ?_))
 refine jZc [psA ([0,0,0,0,0,0],[false,false,false,false,false,false]),vi (0:Nat),zqu most ss ms,.elt 1 [[.val (.func (.yield l) #[] #[])]] 0 0,.elt 1 [[zmc most ss ms l ss.length]] 0 0] (.bool true) (zgf ss) (λN w0 a w E us hr h=>?_) (z7y l most ss ms hn hlo (zgf ss) ss.length 0 _ _ [] [] oc rfl rfl (by simp [zgf])) ?_
 .have hst:∀{x:AV} {v:Value},Rep E w x v->x.ids=[]->∀{I:Nat->Prop},(∀b,E.imm b->I b)->Rep (zca I) w x v:=λh hi _ hI=>h.step (E':=zca _) hI (zdy.refl E w) oV;obtain⟨vs3,g1,g2,_⟩:=hr.mem 3 (.cells 169 [.fn (.func 122) [] [zqu most ss ms,.ptr 2 0,.ptr 3 0]]) rfl;obtain⟨vs2,g3,g4,_⟩:=hr.mem 2 (.cells 168 [.val (.func (.yield l) #[] #[])]) rfl;obtain⟨fv,t3,rfl,hfv,k3⟩:=g2.inv
  obtain⟨yv,t2,rfl,hyv,k2⟩:=g4.inv;have e3:t3=[]:=kas k3.1.symm;have e2:t2=[]:=kas k2.1.symm;subst e3 e2;obtain⟨us1,us2,f1,f2,f3⟩:=zj4 hfv rfl;have hu1:us1=#[]:=by have:=f2.1;simp at this;exact Array.eq_empty_of_size_eq_zero oc
  obtain⟨pb,t4,j1,j2,j3⟩:=f3.inv;obtain⟨py,t5,j4,j5,j6⟩:=j3.inv;obtain⟨pm,t6,j7,j8,j9⟩:=j6.inv;have e6:t6=[]:=kas j9.1.symm;subst e6 j7 j4;have hpy:py=.pointer (some ⟨E.mem 2,0,none⟩):=by cases j5;rfl
  have hpm:pm=.pointer (some ⟨E.mem 3,0,none⟩):=by cases j8;rfl
  have hus2:us2=#[pb,py,pm]:=by rw [<-Array.toArray_toList (xs:=us2),j1]
  subst hu1 hus2 hpy hpm;obtain⟨v0,t0,rfl,h0,h⟩:=h.inv;obtain⟨v1,t1,rfl,h1,h⟩:=h.inv;obtain⟨v2,t2,rfl,h2,h⟩:=h.inv;obtain⟨v3,t3,rfl,h3,h⟩:=h.inv;obtain⟨v4,t4,rfl,h4,h⟩:=h.inv;have e7:t4=[]:=kas h.1.symm;subst e7;have hv3:v3=.pointer (some ⟨E.mem 2,0,none⟩):=by cases h3;rfl
  have hv4:v4=.pointer (some ⟨E.mem 3,0,none⟩):=by cases h4;rfl
  subst hv3 hv4;rw [hyv.val_eq] at g3;rw [f1] at g1;have cy:w.cell? ⟨E.mem 2,0,none⟩=some (.func (.yield l) #[] #[]):=by simp [World.cell?,g3]
  have cm:w.cell? ⟨E.mem 3,0,none⟩=some (.func (.func 122) #[] #[pb,.pointer (some ⟨E.mem 2,0,none⟩),.pointer (some ⟨E.mem 3,0,none⟩)]):=by simp [World.cell?,g1]
  refine((((yf1.nil _ _).cons ?_).cons ?_).cons ?_).cons ?_ |>.cons ?_
  .refine zk0 (.inr ⟨3,rfl⟩) (zk5 most ss ms l ss.length).1 (zk5 most ss ms l ss.length).2 cm ?_;refine zz2 ?_ ?_ (hst j2 rfl λb hb=>.inl hb) cy cm ss.length
   .exact .inr ⟨3,rfl⟩
   .exact .inr ⟨2,rfl⟩
  .exact zk0 (.inr ⟨2,rfl⟩) rfl rfl cy (.val _)
  .exact hst h2 rfl λb hb=>.inl hb
  .exact hst h1 rfl λb hb=>.inl hb
  .exact hst h0 rfl λb hb=>.inl hb
 ·(repeat' (first|refine j1 ?_|refine jF ?_|refine jE ?_));exact⟨.inl rfl,rfl⟩
end
theorem z7z(l:List Int)(h:l.length=6):l=[l.getD 0 0,l.getD 1 0,l.getD 2 0,l.getD 3 0,l.getD 4 0,l.getD 5 0]:=by obtain⟨x0,x1,x2,x3,x4,x5,rfl⟩:=z5b l h;rfl
theorem zm8{l:List Int}(h:zhn l){x:Int}(hx:0<=x/\x<=999)(i:Nat):zhn (l.set i x):=λj=>by
 by_cases e:i=j
 .subst e;rcases kae i l.length with hl|hl
  .simp [hl];exact hx
  .simp [kd6.2 hl]
 .have:=h j;simpa [kai,kdg e] using this
theorem zuc(ss:List Slip)(hlo:∀s∈ss,0<=s.lo/\s.hi<=999):∀(m i:Nat) (pw:List Int) (sg:List Bool),i+m=ss.length->pw.length=6->sg.length=6->zhn pw->∀p∈zks ss m i pw sg,(p.1.length=6/\p.2.length=6)/\zhn p.1
 | 0,i,pw,sg,_,h1,h2,h3,p,hp=>by simp only [zks,kcg] at hp;subst hp;exact⟨⟨h1,h2⟩,h3⟩
 | m+1,i,pw,sg,hi,h1,h2,h3,p,hp=>by
   simp only [zks,kcq] at hp;obtain⟨n,hn,hp⟩:=hp;have hil:i<ss.length:=oc
   have hs:=hlo ss[i] (kbf hil);have hg:ss.getD i ⟨0,0,0,0,0,0,0⟩=ss[i]:=by simp [hil]
   have hnr:0<=n/\n<=999:=by simp only [zbr,kav,ka3,hg] at hn;obtain⟨j,hj,rfl⟩:=hn;omega
   rcases kax.1 hp with hp|hp
   .split at hp
    .exact zuc ss hlo m (i+1) _ _ oc (by simp [h1]) (by simp [h2]) (zm8 h3 hnr i) p hp
    .cases hp
   .split at hp
    .exact zuc ss hlo m (i+1) _ _ oc (by simp [h1]) (by simp [h2]) (zm8 h3 hnr i) p hp
    .cases hp
theorem z2w:zhn [0,0,0,0,0,0]:=λi=>by
 match i with
 | 0|1|2|3|4|5=>simp
 | n+6=>simp
theorem zna(ss:List Slip)(hlo:∀s∈ss,0<=s.lo/\s.hi<=999):∀p∈zgf ss,(p.1.length=6/\p.2.length=6)/\zhn p.1 :=
 zuc ss hlo ss.length 0 _ _ oc rfl rfl z2w
theorem zh6(ss:List Slip)(wr:List Int)(sg:List Bool)(h:zhn wr):∀n,zhn (zhq ss wr sg n)
 | 0=>z2w
 | n+1=>by
   have ih:=zh6 ss wr sg h n;unfold zhq;split
   .split
    .exact zm8 ih (h n) _
    .exact ih
   .exact zm8 ih (h n) _
end Go.Ab.J
