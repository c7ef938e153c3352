/- What all laws about sales rest on, beside any goroutines. Conditions: none. -/
import Derived.Test.YtfgciihkmemdlaaGreatDoorZl
namespace Go.Ab.J
open Go Go.Proofs Go.Kp
section
variable{G:zbf}
attribute [local irreducible] AOp AW ADr AFn ze1 AFt AOpJ
abbrev il(l:List Int):List (List AV):=l.map λz=>[vi z]
set_option maxRecDepth 20000 in
set_option maxHeartbeats 8000000 in
theorem zsd(most:Int)(ss:List Slip)(ms:List SumR)(hn:ss.length<=20):AFn (cx G) 11 [bk most ss ms] (.sl 1 (il (zae ss ss.length))):=by
 refine aby Tryz.func11 Tryz.ntmps11 λQ hQ=>?_;(repeat' (first|refine sx ?_|(refine aZ ?_;intros)|refine w0 ?_|fail));refine zbx (zbd 3 1000 1 3 rfl rfl) ?_;refine zam ss.length (λi=>[(2*1,.av (.ptr 1 0)),(2*1+1,.cells 25 [vi most,.sl 7 (ss.map Slip.row),.sl 5 (ms.map SumR.row)]),(2*3,.av (.own 1000)),(2*1000+1,.buf 1 3 (il (zae ss i))),(2*4,.av (vi i))]) ?_ ?_
 .exact si
 .intro i hi;have hlen:(zae ss i).length<=20:=by have:=zfi ss i;omega
  rcases kae i ss.length with hlt|hge
  .obtain⟨s,hs⟩:∃s,ss[i]?=some s:=⟨_,kaa hlt⟩;have hrow:(ss.map Slip.row)[i]?=some s.row:=by simp [hs]
   have hil:i<(ss.map Slip.row).length:=oa hlt
   have hg:ss.getD i ⟨0,0,0,0,0,0,0⟩=s:=by simp [hs]
   have hd:decide ((i:Int)<((ss.map Slip.row).length:Int))=true:=by simp;omega
   by_cases hk:s.kind=5
   .have hsucc:il (zae ss (i+1))=il (zae ss i)++[[vi i]]:=by rw [zbn,hg,if_pos hk];simp
    have hdk:decide (s.kind=5)=true:=oa hk
    (repeat' (first|refine sx ?_|(refine aZ ?_;intros)|refine w0 ?_|fail));refine⟨hlt,?_⟩;refine zbg (rn1 1000 22) ?_ rfl rfl;exact sr
   .have hsucc:il (zae ss (i+1))=il (zae ss i):=by rw [zbn,hg,if_neg hk];simp
    have hdk:decide (s.kind=5)=false:=oa hk
    (repeat' (first|refine sx ?_|(refine aZ ?_;intros)|refine w0 ?_|fail));refine⟨hlt,?_⟩;exact si
  .have he:i=ss.length:=oc
   subst he;have hd:decide ((ss.length:Int)<((ss.map Slip.row).length:Int))=false:=od
   (repeat' (first|refine sx ?_|(refine aZ ?_;intros)|refine w0 ?_|fail));refine fe ?_;rfl
def zcn(f:Nat->Int):Nat->Int
 | 0=>0
 | n+1=>if zcn f n≠0 then zcn f n else f n
theorem zmy{f:Nat->Int}{i:Nat}(h:zcn f i≠0):∀{n:Nat},i<=n->zcn f n=zcn f i
 | 0,hn=>by have:i=0:=oc
            subst this;rfl
 | n+1,hn=>by
   rcases kae n i with h1|h1
   .have:i=n+1:=oc
    subst this;rfl
   .have:=zmy h h1;simp only [zcn];rw [this,if_pos h]
theorem zf6{f:Nat->Int}{i n:Nat}(h0:zcn f i=0)(h:f i≠0)(hi:i<n):zcn f n=f i:=by
 have h1:zcn f (i+1)=f i:=by simp only [zcn];rw [if_neg (by simp [h0])]
 rw [zmy (i:=i+1) (by rw [h1];exact h) hi,h1]
theorem ziz{f:Nat->Int}{i:Nat}(h0:zcn f i=0)(h:f i=0):zcn f (i+1)=0:=by simp only [zcn];rw [if_neg (by simp [h0]),h]
abbrev d7:Slip:=⟨0,0,0,0,0,0,0⟩
abbrev d5:SumR:=⟨0,0,0,0,false⟩
def zgb(ss:List Slip)(n:Nat):Int:=zcn (λi=>ze6 ss i (ss.getD i d7)) n
def zdt(ss:List Slip):Int:=if zgb ss ss.length≠0 then zgb ss ss.length else if 2<(zae ss ss.length).length then 2 else 0
def zak(most:Int)(ss:List Slip)(ms:List SumR):Int:=if zh7 most ss.length≠0 then zh7 most ss.length else if zdt ss≠0 then zdt ss else zhz ms
def zko(ms:List SumR)(n:Nat):Int:=zcn (λi=>if zcc (ms.getD i d5) then 1 else 0) n
theorem zq6(ms:List SumR):zko ms ms.length=if ms.any zcc then 1 else 0:=by
 have key:∀n,n<=ms.length->zko ms n=if (ms.take n).any zcc then 1 else 0:=λn=>by
  induction n with
  | zero=>intro _;simp [zko,zcn]
  | succ n ih =>
    intro hn;have:=ih oc;unfold zko at this |-;have hlt:n<ms.length:=hn;simp only [zcn,this,kb8,kaa hlt,Option.toList,List.any_append,List.any_cons,List.any_nil,Bool.or_false];have:ms.getD n d5=ms[n]:=by simp [hlt]
    rw [this];cases (ms.take n).any zcc<;>cases zcc ms[n]<;>simp
 have:=key ms.length (kac _);rwa [kdl] at this
theorem crb0{P G:Prop}(n:P)(h:Wr P->G:=by(intro n;first|((with_reducible apply kC);first|exact gB ⟨_,zv8 _ _ _,.mk rfl n.p⟩|exact gB ⟨_,zel _ _ _ _,.mk rfl n.p⟩|exact gB ⟨_,zjr _,.mk rfl n.p⟩|exact gK n.p|exact gS n.p)|exact⟨_,zv8 _ _ _,n.p⟩|exact⟨_,zel _ _ _ _,n.p⟩|exact⟨_,zjr _,n.p⟩|exact sk n.p|exact ap n.p)):G:=h ⟨n⟩
set_option maxRecDepth 20000 in
set_option maxHeartbeats 8000000 in
theorem zf8(k a:Int):AFn (cx G) 119 [vi k,vi a] (vi (zc8 k a)):=by
 refine zag Tryz.func119 rfl Tryz.ntmps119 rfl rfl rfl ?_ rfl;have hs:zh0 k.toNat=if k=1 then 4 else if k=2 then 3 else 0:=by
  by_cases h1:k=1
  .subst h1;rfl
  .by_cases h2:k=2
   .subst h2;rfl
   .rw [if_neg h1,if_neg h2];have e1:k.toNat≠1:=oc
    have e2:k.toNat≠2:=oc
    unfold zh0;split<;>simp_all
 refine zab λQ hQ=>?_;(repeat' (first|refine sx ?_|(refine aZ ?_;intros)|refine crb0 ?_|(refine s2 ?_ ?_<;>intro h7<;>try omega)));all_goals refine fe ?_
 all_goals refine congrArg vi ?_
 all_goals unfold zc8
 all_goals rw [hs]
 all_goals grind
theorem crb1{P G:Prop}(n:P)(h:Wr P->G:=by(intro n;first|((with_reducible apply kC);first|exact gB ⟨_,zv8 _ _ _,.mk rfl n.p⟩|exact gB ⟨_,zel _ _ _ _,.mk rfl n.p⟩|exact gB ⟨_,zf8 _ _,.mk rfl n.p⟩|exact gK n.p|exact gS n.p)|exact⟨_,zv8 _ _ _,n.p⟩|exact⟨_,zel _ _ _ _,n.p⟩|exact⟨_,zf8 _ _,n.p⟩|exact sk n.p|exact ap n.p)):G:=h ⟨n⟩
set_option maxRecDepth 20000 in
set_option maxHeartbeats 8000000 in
theorem zot(m:SumR):AFn (cx G) 53 [.agg m.row] (vi (if zcc m then 1 else 0)):=by
 refine zag Tryz.func53 rfl Tryz.ntmps53 rfl rfl rfl ?_ rfl;have hw:zc8 m.kind m.a=0\/zc8 m.kind m.a=1:=by unfold zc8;split<;>simp
 refine zab λQ hQ=>?_;(repeat' (first|refine sx ?_|(refine aZ ?_;intros)|refine crb1 ?_|(refine s2 ?_ ?_<;>intro h7<;>try omega)));all_goals refine fe ?_
 all_goals refine congrArg vi ?_
 all_goals unfold zcc
 all_goals rcases hw with hw|hw
 all_goals simp_all
theorem z2d{P G:Prop}(n:P)(h:Wr P->G:=by(intro n;first|((with_reducible apply kC);first|exact gB ⟨_,zv8 _ _ _,.mk rfl n.p⟩|exact gB ⟨_,zel _ _ _ _,.mk rfl n.p⟩|exact gB ⟨_,zm5 _ _ _ _ _ hs hn,.mk rfl n.p⟩|exact gB ⟨_,zot _,.mk rfl n.p⟩|exact gB ⟨_,zsd _ _ _ hn,.mk rfl n.p⟩|exact gK n.p|exact gS n.p)|exact⟨_,zv8 _ _ _,n.p⟩|exact⟨_,zel _ _ _ _,n.p⟩|exact⟨_,zm5 _ _ _ _ _ hs hn,n.p⟩|exact⟨_,zot _,n.p⟩|exact⟨_,zsd _ _ _ hn,n.p⟩|exact sk n.p|exact ap n.p)):G:=h ⟨n⟩
set_option maxRecDepth 20000 in
set_option maxHeartbeats 8000000 in
theorem zg8(most:Int)(ss:List Slip)(ms:List SumR)(hn:ss.length<=20)(hm:ms.length<=20):AFn (cx G) 12 [bk most ss ms] (vi (zak most ss ms)):=by
 refine aby Tryz.func12 Tryz.ntmps12 λQ hQ=>?_;by_cases h1:0<=most/\most<=2
 .have hd1:decide (0<=most/\most<=2)=true:=oa h1
  by_cases h2:6<ss.length
  .have hd2:decide ((6:Int)<((ss.map Slip.row).length:Int))=true:=by simp;omega
   (repeat' (first|refine sx ?_|(refine aZ ?_;intros)|refine z2d ?_|fail));refine fe ?_;simp [zak,zh7,h1,h2]
  .have hd2:decide ((6:Int)<((ss.map Slip.row).length:Int))=false:=by simp;omega
   have hH:zh7 most ss.length=0:=by simp [zh7,h1,h2]
   (repeat' (first|refine sx ?_|(refine aZ ?_;intros)|refine z2d ?_|fail));refine zbe ss.length (λi=>zgb ss i=0) (λi=>[(2*1,.av (.ptr 1 0)),(2*1+1,.cells 25 [vi most,.sl 7 (ss.map Slip.row),.sl 5 (ms.map SumR.row)]),(2*3,.av (vi i))]) rfl ?_ ?_
   .exact si
   .intro i hi h0;rcases kae i ss.length with hlt|hge
    .obtain⟨s,hs⟩:∃s,ss[i]?=some s:=⟨_,kaa hlt⟩;have hg:ss.getD i d7=s:=by simp [hs]
     have hd:decide ((i:Int)<((ss.map Slip.row).length:Int))=true:=by simp;omega
     have hi20:i<20:=oc
     by_cases hz:ze6 ss i s=0
     .have hdz:decide (ze6 ss i s=0)=true:=oa hz
      (repeat' (first|refine sx ?_|(refine aZ ?_;intros)|refine z2d ?_|fail));refine⟨hlt,ziz h0 (by rw [hg];exact hz),?_⟩;exact si
     .have hdz:decide (ze6 ss i s=0)=false:=oa hz
      have hS:zgb ss ss.length=ze6 ss i s:=by rw [zgb,zf6 h0 (by rw [hg];exact hz) hlt,hg]
      (repeat' (first|refine sx ?_|(refine aZ ?_;intros)|refine z2d ?_|fail));refine fe ?_;refine congrArg vi ?_;rw [zak,hH,zdt,hS];simp [hz]
    .have he:i=ss.length:=oc
     subst he;have hd:decide ((ss.length:Int)<((ss.map Slip.row).length:Int))=false:=od
     have hfl:(il (zae ss ss.length)).length=(zae ss ss.length).length:=od
     by_cases h3:2<(zae ss ss.length).length
     .have hd3:decide ((2:Int)<((il (zae ss ss.length)).length:Int))=true:=by simp;omega
      (repeat' (first|refine sx ?_|(refine aZ ?_;intros)|refine z2d ?_|fail));refine fe ?_;refine congrArg vi ?_;simp [zak,hH,zdt,h0,h3]
     .have hd3:decide ((2:Int)<((il (zae ss ss.length)).length:Int))=false:=by simp;omega
      have hsl:zdt ss=0:=by simp [zdt,h0,h3]
      by_cases h5:5<ms.length
      .have hd5:decide ((5:Int)<((ms.map SumR.row).length:Int))=true:=by simp;omega
       (repeat' (first|refine sx ?_|(refine aZ ?_;intros)|refine z2d ?_|fail));refine fe ?_;refine congrArg vi ?_;simp [zak,hH,hsl,zhz,h5]
      .have hd5:decide ((5:Int)<((ms.map SumR.row).length:Int))=false:=by simp;omega
       have hsums:zhz ms=zko ms ms.length:=by rw [zq6];simp [zhz,h5]
       (repeat' (first|refine sx ?_|(refine aZ ?_;intros)|refine z2d ?_|fail));refine zbe ms.length (λi=>zko ms i=0) (λi=>[(2*1,.av (.ptr 1 0)),(2*1+1,.cells 25 [vi most,.sl 7 (ss.map Slip.row),.sl 5 (ms.map SumR.row)]),(2*5,.av (vi i))]) rfl ?_ ?_
       .exact si
       .intro j hj hj0;rcases kae j ms.length with hjl|hjg
        .obtain⟨m,hms⟩:∃m,ms[j]?=some m:=⟨_,kaa hjl⟩;have hrow:(ms.map SumR.row)[j]?=some m.row:=by simp [hms]
         have hjr:j<(ms.map SumR.row).length:=oa hjl
         have hgm:ms.getD j d5=m:=by simp [hms]
         have hdj:decide ((j:Int)<((ms.map SumR.row).length:Int))=true:=by simp;omega
         have hj20:j<20:=oc
         by_cases hb:zcc m=true
         .have hv:(if zcc m then (1:Int) else 0)=1:=by rw [if_pos hb]
          have hdb:decide ((if zcc m then (1:Int) else 0)=0)=false:=by rw [hv];rfl
          have hS:zko ms ms.length=1:=by rw [zko,zf6 hj0 (by rw [hgm,hv];simp) hjl,hgm,hv]
          (repeat' (first|refine sx ?_|(refine aZ ?_;intros)|refine z2d ?_|fail));refine fe ?_;refine congrArg vi ?_;rw [zak,hH,hsl,hsums,hS];simp [hb]
         .have hv:(if zcc m then (1:Int) else 0)=0:=by rw [if_neg hb]
          have hdb:decide ((if zcc m then (1:Int) else 0)=0)=true:=by rw [hv];rfl
          (repeat' (first|refine sx ?_|(refine aZ ?_;intros)|refine z2d ?_|fail));refine⟨hjl,ziz hj0 (by rw [hgm,hv]),?_⟩;exact si
        .have he:j=ms.length:=oc
         subst he;have hdj:decide ((ms.length:Int)<((ms.map SumR.row).length:Int))=false:=od
         (repeat' (first|refine sx ?_|(refine aZ ?_;intros)|refine z2d ?_|fail));refine fe ?_;refine congrArg vi ?_;rw [zak,hH,hsl,hsums,hj0];simp
 .have hd1:decide (0<=most/\most<=2)=false:=oa h1
  (repeat' (first|refine sx ?_|(refine aZ ?_;intros)|refine z2d ?_|fail));refine fe ?_;simp [zak,zh7,h1]
end
section
variable{G:zbf}
attribute [local irreducible] AOp AW ADr AFn ze1 AFt AOpJ
set_option maxRecDepth 20000
set_option maxHeartbeats 8000000
theorem to_a(a b:Int):AFn (cx G) 19 [vi a,vi b] (.agg [vi a,vi b]):=by refine aby Tryz.func19 Tryz.ntmps19 λQ hQ=>?_;(repeat' (first|refine sx ?_|(refine aZ ?_;intros)|refine w0 ?_|fail));refine fe ?_;rfl
theorem z1f(most:Int)(ss:List Slip)(ms:List SumR):AFn (cx G) 23 [bk most ss ms] (vb (decide (20<ss.length\/20<ms.length))):=by
 refine aby Tryz.func23 Tryz.ntmps23 λQ hQ=>?_;by_cases h1:20<ss.length
 .have hd1:decide ((20:Int)<((ss.map Slip.row).length:Int))=true:=by simp;omega
  (repeat' (first|refine sx ?_|(refine aZ ?_;intros)|refine w0 ?_|fail));refine fe ?_;simp [h1]
 .have hd1:decide ((20:Int)<((ss.map Slip.row).length:Int))=false:=by simp;omega
  (repeat' (first|refine sx ?_|(refine aZ ?_;intros)|refine w0 ?_|fail));refine fe ?_;have h2:(20<ss.length\/20<ms.length)↔(20:Int)<((ms.map SumR.row).length:Int):=by simp;omega
  simp only [h2]
end
section
variable{G:zbf}
attribute [local irreducible] AOp AW ADr AFn ze1 AFt AOpJ
set_option maxRecDepth 20000
set_option maxHeartbeats 8000000
theorem crg1{P G:Prop}(n:P)(h:Wr P->G:=by(intro n;first|((with_reducible apply kC);first|exact gB ⟨_,z1f _ _ _,.mk rfl n.p⟩|exact gB ⟨_,zg8 _ _ _ hn hm,.mk rfl n.p⟩|exact gK n.p|exact gS n.p)|exact⟨_,z1f _ _ _,n.p⟩|exact⟨_,zg8 _ _ _ hn hm,n.p⟩|exact sk n.p|exact ap n.p)):G:=h ⟨n⟩
theorem fit_a(most:Int)(ss:List Slip)(ms:List SumR):AFn (cx G) 7 [bk most ss ms] (vb (decide ((ss.length<=20/\ms.length<=20)/\zak most ss ms=0))):=by
 refine aby Tryz.func7 Tryz.ntmps7 λQ hQ=>?_;by_cases h1:20<ss.length\/20<ms.length
 .have hd1:decide (20<ss.length\/20<ms.length)=true:=oa h1
  (repeat' (first|refine sx ?_|(refine aZ ?_;intros)|refine crg1 ?_|fail));refine fe ?_;refine congrArg vb ?_;have:¬(ss.length<=20/\ms.length<=20):=oc
  simp [this]
 .have hd1:decide (20<ss.length\/20<ms.length)=false:=oa h1
  have hn:ss.length<=20:=oc
  have hm:ms.length<=20:=oc
  (repeat' (first|refine sx ?_|(refine aZ ?_;intros)|refine crg1 ?_|fail));refine fe ?_;refine congrArg vb ?_;simp [hn,hm]
end
end Go.Ab.J
