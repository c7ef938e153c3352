/- What all laws about sales rest on, beside any goroutines. Conditions: none. -/
import Derived.Test.YtfgciihkmemdlaaGreatDoorZj
namespace Go.Ab.J
open Go Go.Proofs Go.Kp
section
abbrev vi(n:Int):AV:=.val (.int .i64 n)
abbrev vb(b:Bool):AV:=.val (.bool b)
def _root_.Go.Kp.Slip.row(s:Slip):List AV:=[vi s.kind,vi s.dept,vi s.clerk,vi s.for_,vi s.lo,vi s.hi,vi s.signed]
def _root_.Go.Kp.SumR.row(m:SumR):List AV:=[vi m.kind,vi m.a,vi m.lo,vi m.hi,vb m.firm]
def bk(most:Int)(ss:List Slip)(ms:List SumR):AV:=.agg [vi most,.sl 7 (ss.map Slip.row),.sl 5 (ms.map SumR.row)]
variable{G:zbf}
attribute [local irreducible] AOp AW ADr AFn ze1 AFt AOpJ
theorem era0{G:Prop}(h:G:=by((repeat' (first|refine sx ?_|(refine aZ ?_;intros)|refine w0 ?_|(refine s2 ?_ ?_<;>intro h7<;>try omega)));all_goals refine fe ?_;all_goals simp [*])):G:=h
theorem zv8(n lo hi:Int):AFn (cx G) 51 [vi n,vi lo,vi hi] (vb (decide (lo<=n/\n<=hi))):=by refine zag Tryz.func51 rfl Tryz.ntmps51 rfl rfl rfl ?_ rfl;exact era0
set_option maxRecDepth 20000 in
theorem zel(x y lo hi:Int):AFn (cx G) 105 [.agg [vi x,vi y],vi lo,vi hi] (vb (decide (lo<=x/\x<=y/\y<=hi))):=by refine zag Tryz.func105 rfl Tryz.ntmps105 rfl rfl rfl ?_ rfl;exact era0
set_option maxRecDepth 20000 in
theorem zjr(k:Int):AFn (cx G) 118 [vi k] (vb (decide (k=0\/k=1))):=by refine zag Tryz.func118 rfl Tryz.ntmps118 rfl rfl rfl ?_ rfl;exact era0
theorem cra0{P G:Prop}(n:P)(h:Wr P->G:=by(intro n;first|((with_reducible apply kC);first|exact gB ⟨_,zv8 _ _ _,.mk rfl n.p⟩|exact gB ⟨_,zel _ _ _ _,.mk rfl n.p⟩|exact gB ⟨_,zjr _,.mk rfl n.p⟩|exact gK n.p|exact gS n.p)|exact⟨_,zv8 _ _ _,n.p⟩|exact⟨_,zel _ _ _ _,n.p⟩|exact⟨_,zjr _,n.p⟩|exact sk n.p|exact ap n.p)):G:=h ⟨n⟩
set_option maxRecDepth 20000 in
set_option maxHeartbeats 8000000 in
theorem zm5(most:Int)(ss:List Slip)(ms:List SumR)(i:Nat)(s:Slip)(hs:ss[i]?=some s)(hn:ss.length<=20):AFn (cx G) 52 [bk most ss ms,vi i] (vi (ze6 ss i s)):=by
 have hrow:(ss.map Slip.row)[i]?=some s.row:=by simp [hs]
 have hil:i<(ss.map Slip.row).length:=by simpa using (kab.1 hs).1
 have hi20:i<20:=by have:=(kab.1 hs).1;omega
 refine zag Tryz.func52 rfl Tryz.ntmps52 rfl rfl rfl ?_ rfl;by_cases hfo:0<=s.for_/\s.for_<=(i:Int)-1
 .obtain⟨f,hf⟩:∃f:Nat,s.for_=(f:Int):=⟨s.for_.toNat,oc⟩;have hfi:f<i:=oc
  have hfl:f<(ss.map Slip.row).length:=oc
  obtain⟨t,ht⟩:∃t,ss[f]?=some t:=⟨_,kaa (oa hfl)⟩;have hrow2:(ss.map Slip.row)[f]?=some t.row:=by simp [ht]
  have hg:ss.getD s.for_.toNat ⟨0,0,0,0,0,0,0⟩=t:=by simp [hf,ht]
  (repeat' (first|refine sx ?_|(refine aZ ?_;intros)|refine cra0 ?_|(refine s2 ?_ ?_<;>intro h7<;>try omega)));all_goals try refine fe ?_
  all_goals refine congrArg vi ?_
  all_goals unfold ze6 zpl
  all_goals rw [hg]
  all_goals grind
 ·(repeat' (first|refine sx ?_|(refine aZ ?_;intros)|refine cra0 ?_|(refine s2 ?_ ?_<;>intro h7<;>try omega)));all_goals try refine fe ?_
  all_goals refine congrArg vi ?_
  all_goals unfold ze6 zpl
  all_goals grind
end
end Go.Ab.J
