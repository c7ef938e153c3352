/- Pieces of a law about sales. Conditions: none. -/
import Derived.Test.YtfgciihkmemdlaaGreatDoorHPc
namespace Go.Ab.J
open Go Go.Proofs Go.Kp
section
variable{G:zbf}
attribute [local irreducible] AOp AW ADr AFn ze1 AFt AOpJ
set_option maxRecDepth 20000
set_option maxHeartbeats 8000000
theorem zcr(ss:List Slip)(ms:List SumR)(am:List Int)(n:Nat):zao ss ms am (n+1)=zao ss ms am n++(if zd3 ss am (ms.getD n d5) then [(n:Int)] else []):=by unfold zao;rw [kdp,kch,kbt];congr 1;simp only [kdk,kd0];split<;>simp
theorem zqy(ss:List Slip)(ms:List SumR)(am:List Int)(n:Nat):(zao ss ms am n).length<=n:=by unfold zao;rw [ka6];exact kak (kbc _ _) od
theorem cri0{P G:Prop}(n:P)(h:Wr P->G:=by(intro n;first|((with_reducible apply kC);first|exact gB ⟨_,zpg _ _ _ _ _ _ hk oc oc hb,.mk rfl n.p⟩|exact gB ⟨_,zv8 _ _ _,.mk rfl n.p⟩|exact gK n.p|exact gS n.p)|exact⟨_,zpg _ _ _ _ _ _ hk oc oc hb,n.p⟩|exact⟨_,zv8 _ _ _,n.p⟩|exact sk n.p|exact ap n.p)):G:=h ⟨n⟩
theorem ze3(most:Int)(ss:List Slip)(ms:List SumR)(now:List Int)(hn:ss.length<=20)(hm:ms.length<=20)(hl:now.length=ss.length)(hb:∀i,0<=now.getD i 0/\now.getD i 0<=999)(hk0:∀m∈ms,0<=m.kind) :
  AFn (cx G) 86 [bk most ss ms,.sl 1 (il now)] (.sl 1 (il (zan ss ms now))):=by
 refine aby Tryz.func86 Tryz.ntmps86 λQ hQ=>?_
 (repeat' (first|refine sx ?_|(refine aZ ?_;intros)|refine cri0 ?_|fail))
 refine zbx (zbd 5 1000 1 3 rfl rfl) ?_
 refine zam ms.length (λi=>[(2*2,.av (.ptr 2 0)),(2*2+1,.cells 25 [vi most,.sl 7 (ss.map Slip.row),.sl 5 (ms.map SumR.row)]),(2*1,.av (.sl 1 (il now))),(2*5,.av (.own 1000)),(2*1000+1,.buf 1 3 (il (zao ss ms now i))),(2*6,.av (vi i))]) ?_ ?_
 .exact si
 .intro i hi;have hwl:=zqy ss ms now i;rcases kae i ms.length with hlt|hge
  .obtain⟨m,hms⟩:∃m,ms[i]?=some m:=⟨_,kaa hlt⟩;have hrow:(ms.map SumR.row)[i]?=some m.row:=by simp [hms]
   have hil:i<(ms.map SumR.row).length:=oa hlt
   have hg:ms.getD i d5=m:=by simp [hms]
   have hd:decide ((i:Int)<((ms.map SumR.row).length:Int))=true:=by simp;omega
   have hk:=hk0 m (kag hms);have h1000:(il (zao ss ms now i)).length+[[vi (i:Int)]].length<=1000000000:=by simp;omega
   have hf:zd3 ss now m=!decide (m.lo<=zbo ss now m.kind.toNat m.a now.length/\zbo ss now m.kind.toNat m.a now.length<=m.hi):=by rw [hl];rfl
   have hi1:vi ((i+1:Nat):Int)=vi ((i:Int)+1):=od
   by_cases hin:m.lo<=zbo ss now m.kind.toNat m.a now.length/\zbo ss now m.kind.toNat m.a now.length<=m.hi
   .have hdi:decide (m.lo<=zbo ss now m.kind.toNat m.a now.length/\zbo ss now m.kind.toNat m.a now.length<=m.hi)=true:=oa hin
    have hsucc:il (zao ss ms now (i+1))=il (zao ss ms now i):=by rw [zcr,hg,hf,hdi];simp
    (repeat' (first|refine sx ?_|(refine aZ ?_;intros)|refine cri0 ?_|fail));refine⟨hlt,?_⟩;exact si
   .have hdi:decide (m.lo<=zbo ss now m.kind.toNat m.a now.length/\zbo ss now m.kind.toNat m.a now.length<=m.hi)=false:=oa hin
    have hsucc:il (zao ss ms now (i+1))=il (zao ss ms now i)++[[vi (i:Int)]]:=by rw [zcr,hg,hf,hdi];simp
    (repeat' (first|refine sx ?_|(refine aZ ?_;intros)|refine cri0 ?_|fail));refine⟨hlt,?_⟩;refine zbg (rn1 1000 38) ?_ rfl rfl;exact sr
  .have he:i=ms.length:=oc
   subst he;have hd:decide ((ms.length:Int)<((ms.map SumR.row).length:Int))=false:=od
   (repeat' (first|refine sx ?_|(refine aZ ?_;intros)|refine cri0 ?_|fail));refine fe ?_;rfl
def zse(ms:List SumR)(l:List Int):Bool:=(List.range l.length).any λi=>(ms.getD (l.getD i 0).toNat d5).firm
theorem zwh(ms:List SumR)(l:List Int):ybf ms l=!zse ms l:=by
 unfold ybf zse;congr 1;rw [Bool.eq_iff_iff,kaz,kaz];constructor
 .rintro⟨x,hx,h⟩;obtain⟨i,hi⟩:=kba hx;exact⟨i,ka3.2 (kab.1 hi).1,by simpa [hi] using h⟩
 .rintro⟨i,hi,h⟩;have hi:=ka3.1 hi;exact⟨l[i],kbf hi,by simpa [hi] using h⟩
theorem eri0{G:Prop}(h:G:=by((repeat' (first|refine sx ?_|(refine aZ ?_;intros)|refine w0 ?_|fail));refine fe ?_;rw [hF])):G:=h
theorem zwi(most:Int)(ss:List Slip)(ms:List SumR)(l:List Int)(hl:l.length<=100000)(hin:∀x∈l,0<=x/\x<(ms.length:Int)):AFn (cx G) 156 [bk most ss ms,.sl 1 (il l)] (vb (zse ms l)):=by
 refine aby Tryz.func156 Tryz.ntmps156 λQ hQ=>?_;(repeat' (first|refine sx ?_|(refine aZ ?_;intros)|refine w0 ?_|fail));refine zbe l.length (λi=>∀j,j<i->(ms.getD (l.getD j 0).toNat d5).firm=false) (λi=>[(2*2,.av (.ptr 2 0)),(2*2+1,.cells 25 [vi most,.sl 7 (ss.map Slip.row),.sl 5 (ms.map SumR.row)]),(2*1,.av (.sl 1 (il l))),(2*5,.av (vi i))]) (λj hj=>oc) ?_ ?_
 .exact si
 .intro i hi hP;rcases kae i l.length with hlt|hge
  .obtain⟨z,hz⟩:∃z,l[i]?=some z:=⟨_,kaa hlt⟩;have hzr:(il l)[i]?=some [vi z]:=zcm hz;have hzl:i<(il l).length:=by simp;omega
   have hgz:l.getD i 0=z:=by simp [hz]
   have hzb:=hin z (kag hz);obtain⟨q,hq⟩:∃q:Nat,z=(q:Int):=⟨z.toNat,oc⟩;obtain⟨m,hms⟩:∃m,ms[q]?=some m:=⟨_,kaa oc⟩;have hrow:(ms.map SumR.row)[q]?=some m.row:=by simp [hms]
   have hil:q<(ms.map SumR.row).length:=by simp;omega
   have hg:(ms.getD (l.getD i 0).toNat d5).firm=m.firm:=by rw [hgz,hq];simp [hms]
   have hd:decide ((i:Int)<((il l).length:Int))=true:=by simp;omega
   rcases ka1 m.firm with hf|hf
   .have hF:zse ms l=true:=kaz.2 ⟨i,ka3.2 hlt,by rw [hg,hf]⟩;exact eri0
   ·(repeat' (first|refine sx ?_|(refine aZ ?_;intros)|refine w0 ?_|fail));refine⟨hlt,λj hj=>?_,?_⟩
    .rcases kae j i with h|h
     .exact hP j h
     .have:j=i:=oc
      subst this;rw [hg,hf]
    .exact si
  .have he:i=l.length:=oc
   subst he;have hd:decide ((l.length:Int)<((il l).length:Int))=false:=od
   have hF:zse ms l=false:=by rw [ka8];intro h;obtain⟨j,hj,h⟩:=kaz.1 h;rw [hP j (ka3.1 hj)] at h;cases h
   exact eri0
def zrm(ss:List Slip)(wr:List Int)(sg:List Bool)(i:Nat):Bool :=
 decide ((ss.getD i d7).lo<=wr.getD i 0/\wr.getD i 0<=(ss.getD i d7).hi)&&(!decide ((ss.getD i d7).kind=5)||decide ((ss.getD i d7).signed=0)||decide ((ss.getD i d7).signed=1) == sg.getD (zae ss i).length false)
def zxr(ss:List Slip)(wr:List Int)(sg:List Bool):Bool:=(List.range ss.length).all (zrm ss wr sg)
theorem ybb{P G:Prop}(n:P)(h:Wr P->G:=by(intro n;first|((with_reducible apply kC);first|exact gB ⟨_,zv8 _ _ _,.mk rfl n.p⟩|exact gK n.p|exact gS n.p)|exact⟨_,zv8 _ _ _,n.p⟩|exact sk n.p|exact ap n.p)):G:=h ⟨n⟩
theorem zn9(most:Int)(ss:List Slip)(ms:List SumR)(wr:List Int)(sg:List Bool)(hn:ss.length<=20)(hw:wr.length=ss.length)(hsg:sg.length=(zae ss ss.length).length) :
  AFn (cx G) 154 [bk most ss ms,.agg [.sl 1 (il wr),.sl 1 (bl sg)]] (vb (zxr ss wr sg)):=by
 refine aby Tryz.func154 Tryz.ntmps154 λQ hQ=>?_
 (repeat' (first|refine sx ?_|(refine aZ ?_;intros)|refine ybb ?_|fail))
 refine zbe ss.length (λi=>∀j,j<i->zrm ss wr sg j=true) (λi=>[(2*2,.av (.ptr 2 0)),(2*2+1,.cells 25 [vi most,.sl 7 (ss.map Slip.row),.sl 5 (ms.map SumR.row)]),(2*3,.av (.ptr 3 0)),(2*3+1,.cells 140 [.sl 1 (il wr),.sl 1 (bl sg)]),(2*5,.av (vi ((zae ss i).length:Int))),(2*6,.av (vi i))]) (λj hj=>oc) ?_ ?_
 .exact si
 .intro i hi hP;rcases kae i ss.length with hlt|hge
  .obtain⟨s,hs⟩:∃s,ss[i]?=some s:=⟨_,kaa hlt⟩;have hrow:(ss.map Slip.row)[i]?=some s.row:=by simp [hs]
   have hil:i<(ss.map Slip.row).length:=oa hlt
   have hg:ss.getD i d7=s:=by simp [hs]
   have hd:decide ((i:Int)<((ss.map Slip.row).length:Int))=true:=by simp;omega
   obtain⟨x,hx⟩:∃x,wr[i]?=some x:=⟨_,kaa oc⟩;have hxr:(il wr)[i]?=some [vi x]:=zcm hx;have hxl:i<(il wr).length:=by simp;omega
   have hgx:wr.getD i 0=x:=by simp [hx]
   have hfl:=zfi ss i;have hi1:vi ((i+1:Nat):Int)=vi ((i:Int)+1):=od
   have hS:zrm ss wr sg i=(decide (s.lo<=x/\x<=s.hi)&&(!decide (s.kind=5)||decide (s.signed=0)||decide (s.signed=1) == sg.getD (zae ss i).length false)):=by unfold zrm;rw [hg,hgx]
   have hbad:zrm ss wr sg i=false->zxr ss wr sg=false:=λh=>by rw [ka8];intro hc;have:=kar.1 hc i (ka3.2 hlt);rw [h] at this;cases this
   have hgood:zrm ss wr sg i=true->∀j,j<i+1->zrm ss wr sg j=true:=λh j hj=>by
    rcases kae j i with h1|h1
    .exact hP j h1
    .have:j=i:=oc
     subst this;exact h
   by_cases hin:s.lo<=x/\x<=s.hi
   .have hdi:decide (s.lo<=x/\x<=s.hi)=true:=oa hin
    by_cases hk:s.kind=5
    .have hdk:decide (s.kind=5)=true:=oa hk
     have hfs:(zae ss (i+1)).length=(zae ss i).length+1:=by rw [zbn,hg,if_pos hk];simp
     have hf1:vi ((zae ss (i+1)).length:Int)=vi (((zae ss i).length:Int)+1):=by rw [hfs];simp
     have hmono:=zmx ss (a:=i+1) (b:=ss.length) oc;obtain⟨y,hy⟩:∃y,sg[(zae ss i).length]?=some y:=⟨_,kaa oc⟩;have hyr:(bl sg)[(zae ss i).length]?=some [vb y]:=z8h hy;have hyl:(zae ss i).length<(bl sg).length:=by simp;omega
     have hgy:sg.getD (zae ss i).length false=y:=by simp [hy]
     rw [hgy] at hS;by_cases hs0:s.signed=0
     .have hd0:decide (s.signed=0)=true:=oa hs0
      (repeat' (first|refine sx ?_|(refine aZ ?_;intros)|refine ybb ?_|fail));refine⟨hlt,hgood (by rw [hS];simp [hdi,hdk,hd0]),?_⟩;exact si
     .have hd0:decide (s.signed=0)=false:=oa hs0
      cases hb:(decide (s.signed=1) == y) with
      | true =>(repeat' (first|refine sx ?_|(refine aZ ?_;intros)|refine ybb ?_|fail));refine⟨hlt,hgood (by rw [hS];simp [hdi,hdk,hd0,hb]),?_⟩;exact si
      | false =>(repeat' (first|refine sx ?_|(refine aZ ?_;intros)|refine ybb ?_|fail));refine fe ?_;rw [hbad (by rw [hS];simp [hdi,hdk,hd0,hb])]
    .have hdk:decide (s.kind=5)=false:=oa hk
     have hfs:(zae ss (i+1)).length=(zae ss i).length:=by rw [zbn,hg,if_neg hk];simp
     (repeat' (first|refine sx ?_|(refine aZ ?_;intros)|refine ybb ?_|fail));refine⟨hlt,hgood (by rw [hS];simp [hdi,hdk]),?_⟩;exact si
   .have hdi:decide (s.lo<=x/\x<=s.hi)=false:=oa hin
    (repeat' (first|refine sx ?_|(refine aZ ?_;intros)|refine ybb ?_|fail));refine fe ?_;rw [hbad (by rw [hS];simp [hdi])]
  .have he:i=ss.length:=oc
   subst he;have hd:decide ((ss.length:Int)<((ss.map Slip.row).length:Int))=false:=od
   have hF:zxr ss wr sg=true:=kar.2 λj hj=>hP j (ka3.1 hj);(repeat' (first|refine sx ?_|(refine aZ ?_;intros)|refine ybb ?_|fail));refine fe ?_;rw [hF]
end
end Go.Ab.J
