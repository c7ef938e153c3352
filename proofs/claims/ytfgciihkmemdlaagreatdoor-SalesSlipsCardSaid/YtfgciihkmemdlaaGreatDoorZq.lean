/- What all laws about sales rest on, beside any goroutines. Conditions: none. -/
import Derived.Test.YtfgciihkmemdlaaGreatDoorZp
namespace Go.Ab.J
open Go Go.Proofs Go.Kp
section
variable{G:zbf}{u:Nat->ByteArray}
attribute [local irreducible] AOp AW ADr AFn ze1 AFt AOpJ
set_option maxRecDepth 20000
set_option maxHeartbeats 16000000
theorem ctb0{P G:Prop}(n:P)(h:Wr P->G:=by(intro n;first|((with_reducible apply kC);first|exact gB ⟨_,zdp _ _ _,.mk rfl n.p⟩|exact gB ⟨_,zpj _ _ _ _,.mk rfl n.p⟩|exact gB ⟨_,zit _,.mk rfl n.p⟩|exact gB ⟨_,z0o _,.mk rfl n.p⟩|exact gK n.p|exact gS n.p)|exact⟨_,zdp _ _ _,n.p⟩|exact⟨_,zpj _ _ _ _,n.p⟩|exact⟨_,zit _,n.p⟩|exact⟨_,z0o _,n.p⟩|exact sk n.p|exact ap n.p)):G:=h ⟨n⟩
theorem z7o(most:Int)(ss:List Slip)(ms:List SumR)(i:Nat)(s:Slip)(hs:ss[i]?=some s)(hn:ss.length<=20):AFn (cx (zch u)) 153 [bk most ss ms,vi i] (vi (ze6 ss i s)):=by
 have hrow:(ss.map Slip.row)[i]?=some s.row:=by simp [hs]
 have hil:i<(ss.map Slip.row).length:=by simpa using (kab.1 hs).1
 have hi20:i<20:=by have:=(kab.1 hs).1;omega
 refine zag Tryz.func153 rfl Tryz.ntmps153 rfl rfl rfl ?_ rfl;by_cases hkr:0<=s.kind/\s.kind<=5
 .have hdr:decide (0<=s.kind/\s.kind<=5)=true:=oa hkr
  have hk6:s.kind=0\/s.kind=1\/s.kind=2\/s.kind=3\/s.kind=4\/s.kind=5:=oc
  obtain⟨kd,dp,ck,fo,lo,hg,sd⟩:=s;dsimp only [Slip.row] at *;by_cases h35:kd=3\/kd=5
  .by_cases hfo:0<=fo/\fo<=(i:Int)-1
   .have hdf:decide (0<=fo/\fo<=(i:Int)-1)=true:=oa hfo
    obtain⟨f,hf⟩:∃f:Nat,fo=(f:Int):=⟨fo.toNat,oc⟩;have hfi:f<i:=oc
    have hfl:f<(ss.map Slip.row).length:=oc
    obtain⟨t,ht⟩:∃t,ss[f]?=some t:=⟨_,kaa (oa hfl)⟩;have hrow2:(ss.map Slip.row)[f]?=some t.row:=by simp [ht]
    have hg2:ss.getD fo.toNat ⟨0,0,0,0,0,0,0⟩=t:=by simp [hf,ht]
    rcases h35 with rfl|rfl;all_goals (repeat' (first|refine sx ?_|(refine aZ ?_;intros)|refine ctb0 ?_|(refine s2 ?_ ?_<;>intro h7<;>try omega)))
    all_goals try refine fe ?_
    all_goals refine congrArg vi ?_
    all_goals unfold ze6 zpl
    all_goals dsimp only
    all_goals rw [hg2]
    all_goals grind
   .have hdf:decide (0<=fo/\fo<=(i:Int)-1)=false:=oa hfo
    rcases h35 with rfl|rfl;all_goals (repeat' (first|refine sx ?_|(refine aZ ?_;intros)|refine ctb0 ?_|(refine s2 ?_ ?_<;>intro h7<;>try omega)))
    all_goals try refine fe ?_
    all_goals refine congrArg vi ?_
    all_goals unfold ze6 zpl
    all_goals grind
  .have hk4:kd=0\/kd=1\/kd=2\/kd=4:=oc
   rcases hk4 with rfl|rfl|rfl|rfl;all_goals (repeat' (first|refine sx ?_|(refine aZ ?_;intros)|refine ctb0 ?_|(refine s2 ?_ ?_<;>intro h7<;>try omega)))
   all_goals try refine fe ?_
   all_goals refine congrArg vi ?_
   all_goals unfold ze6 zpl
   all_goals grind
 .have hdr:decide (0<=s.kind/\s.kind<=5)=false:=oa hkr
  (repeat' (first|refine sx ?_|(refine aZ ?_;intros)|refine ctb0 ?_|fail));refine fe ?_;refine congrArg vi ?_;unfold ze6;rw [if_pos hkr]
end
end Go.Ab.J
