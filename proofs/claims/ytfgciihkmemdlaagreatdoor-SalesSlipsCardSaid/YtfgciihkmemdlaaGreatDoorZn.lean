/- What all laws about sales rest on, beside any goroutines. Conditions: none. -/
import Derived.Test.YtfgciihkmemdlaaGreatDoorZm
namespace Go.Ab.J
open Go Go.Proofs Go.Kp
theorem zib{f:Nat->Int}:∀{n:Nat},zcn f n=0↔∀i,i<n->f i=0
 | 0=>by simp [zcn]
 | n+1=>by
   simp only [zcn];constructor
   .intro h i hi;by_cases h0:zcn f n=0
    .rw [if_neg (by simp [h0])] at h;rcases kae i n with h1|h1
     .exact zib.1 h0 i h1
     .have:i=n:=oc
      rw [this];exact h
    .rw [if_pos h0] at h;exact absurd h h0
   .intro h;have h0:zcn f n=0:=zib.2 λi hi=>h i oc;rw [if_neg (by simp [h0])];exact h n oc
structure zne(ss:List Slip)(i:Nat)(s:Slip):Prop where
 kind:0<=s.kind/\s.kind<=5
 dept:0<=s.dept/\s.dept<=4
 dept0:s.kind=4\/s.kind=5->s.dept=0
 clerk:0<=s.clerk/\s.clerk<=3
 for3:s.kind=3->0<=s.for_/\s.for_<(i:Int)/\((ss.getD s.for_.toNat d7).kind=0\/(ss.getD s.for_.toNat d7).kind=1)
 for5:s.kind=5->0<=s.for_/\s.for_<(i:Int)/\(ss.getD s.for_.toNat d7).kind≠5
 fo:s.kind≠3->s.kind≠5->s.for_=-1
 amt:0<=s.lo/\s.lo<=s.hi/\s.hi<=999/\s.hi-s.lo<3
 sg:0<=s.signed/\s.signed<=2
 sg0:s.kind≠5->s.signed=0
theorem znx(ss:List Slip)(i:Nat)(s:Slip):ze6 ss i s=0↔zne ss i s:=by
 constructor
 .intro h;unfold ze6 zpl at h;constructor<;>grind
 .rintro⟨h1,h2,h3,h4,h5,h6,h7,h8,h9,h10⟩;unfold ze6 zpl
  grind
structure Good(most:Int)(ss:List Slip)(ms:List SumR):Prop where
 most:0<=most/\most<=2
 nss:ss.length<=6
 slip:∀(i:Nat) (s:Slip),ss[i]?=some s->zne ss i s
 fix:(zae ss ss.length).length<=2
 nms:ms.length<=5
 sum:∀m∈ms,(0<=m.kind/\m.kind<=4)/\(0<=m.a/\m.a<=zh0 m.kind.toNat)/\-9999<=m.lo/\m.lo<=m.hi/\m.hi<=9999
theorem zka(m:SumR):zcc m=false↔(0<=m.kind/\m.kind<=4)/\(0<=m.a/\m.a<=zh0 m.kind.toNat)/\-9999<=m.lo/\m.lo<=m.hi/\m.hi<=9999:=by
 unfold zcc zc8;simp only [kbp,decide_eq_false_iff_not,Bool.not_eq_false',decide_eq_true_eq,Decidable.not_not];split<;>simp_all
 .intro h1 h2 h3 h4;rename_i h;exact absurd h4 (Int.not_le.2 (h h1 h2 h3))
theorem za2(most:Int)(ss:List Slip)(ms:List SumR):zak most ss ms=0↔Good most ss ms:=by
 have hh:zh7 most ss.length=0↔(0<=most/\most<=2)/\ss.length<=6:=by unfold zh7;split<;>(try split)<;>simp_all<;>omega
 have hs:zgb ss ss.length=0↔∀(i:Nat) (s:Slip),ss[i]?=some s->zne ss i s:=by
  unfold zgb;rw [zib];constructor
  .intro h i s hi;have:=h i (kab.1 hi).1;rw [show ss.getD i d7=s by simp [hi]] at this;exact(znx _ _ _).1 this
  .intro h i hi;have he:ss[i]?=some ss[i]:=kaa hi;rw [show ss.getD i d7=ss[i] by simp [he]];exact(znx _ _ _).2 (h i _ he)
 have hm:zhz ms=0↔ms.length<=5/\∀m∈ms,(0<=m.kind/\m.kind<=4)/\(0<=m.a/\m.a<=zh0 m.kind.toNat)/\-9999<=m.lo/\m.lo<=m.hi/\m.hi<=9999:=by
  unfold zhz;split
  .simp;omega
  .rename_i h5;have:ms.length<=5:=oc
   split
   .rename_i ha;obtain⟨m,hm,hb⟩:=kaz.1 ha;constructor
    .intro h;cases h
    .intro h;have:=(zka m).2 (h.2 m hm);rw [hb] at this;cases this
   .rename_i ha;refine⟨λ_=>⟨this,λm hm=>(zka m).1 ?_⟩,λ_=>rfl⟩;cases hb:zcc m with
    | false=>rfl
    | true=>exact absurd (kaz.2 ⟨m,hm,hb⟩) ha
 have hf:zdt ss=0↔zgb ss ss.length=0/\(zae ss ss.length).length<=2:=by
  unfold zdt;split
  .rename_i h;simp [h]
  .rename_i h;have h0:zgb ss ss.length=0:=Decidable.not_not.1 h;split
   .simp [h0];omega
   .simp [h0];omega
 have hc:zak most ss ms=0↔zh7 most ss.length=0/\zdt ss=0/\zhz ms=0:=by
  unfold zak;split
  .rename_i h;simp [h]
  .rename_i h;have h0:=Decidable.not_not.1 h;split
   .rename_i h2;simp [h2]
   .rename_i h2;have h20:=Decidable.not_not.1 h2;simp [h0,h20]
 rw [hc,hh,hf,hs,hm];constructor
 .rintro⟨⟨a,b⟩,⟨c,d⟩,e,f⟩;exact⟨a,b,c,d,e,f⟩
 .rintro⟨a,b,c,d,e,f⟩;exact⟨⟨a,b⟩,⟨c,d⟩,e,f⟩
end Go.Ab.J
