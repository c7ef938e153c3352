/- Pieces of a law about sales. Conditions: none. -/
import Derived.Test.YtbghfeeibnmlbaaGreatDoorHTe
import Derived.AtR
import Derived.Calls
import Derived.ChangeKeysEq
import Derived.Conc.AtomicLaws2
import Derived.Conc.Beside
import Derived.Conc.ClockLaws
import Derived.Conc.CompanyDraw
import Derived.Conc.CompanyMem
import Derived.Conc.HoldsTime
import Derived.Conc.LockJoin
import Derived.Conc.MarkLaws
import Derived.Conc.MuSpec
import Derived.Conc.MuStops
import Derived.Conc.Own
import Derived.Conc.Starve
import Derived.Conc.WgArith
import Derived.Great.BuildSlice
import Derived.Great.FillDense
import Derived.Laws.Bits64b
import Derived.Laws.CopyRow
import Derived.Laws.MakeOwn
import Derived.Laws.OwnMore
import Derived.Laws.Sem
import Derived.Laws.Shifts
import Derived.Laws.StructEq
import Derived.LoopNIn
import Derived.MapKept
import Derived.Maps.AppendAt
import Derived.OwnWalkIn
import Derived.RangeFuncBound
import Derived.RangeFuncCalls
import Derived.RangeFuncLeaves
import Derived.RangeFuncNested
import Derived.RangeFuncRecord
import Derived.Shelf.Abstract
import Derived.Sort.AssemblyPlain
import Derived.Sort.LotD4
import Derived.Sort.LotD5
import Derived.TacticsInMore
import Derived.Test.YtbghfeeibnmlbaaGreatDoorProg
import Derived.WalkKit
namespace Go.Ab.J
open Go Go.Proofs Go.Kp
section
variable{G:zbf}{u:Nat→ByteArray}
theorem ynz(u:Nat→ByteArray):AFn (cx (zch u)) 38 [bk 0 [] [],.agg [vi 0,.val (.slice none 0 0),.val (.slice none 0 0)]] (vb true):=zsx (yi2 0 [] [] (by simp) (by simp)) fun I w vs _ h=>by obtain⟨v1,vs1,rfl,h1,h2⟩:=h.inv;obtain⟨v2,vs2,rfl,h3,h4⟩:=h2.inv;exact(h4.cons (yi6 h3)).cons h1
attribute [local irreducible] AOp AW ADr AFn ze1 AFt AOpJ
set_option maxRecDepth 20000
set_option maxHeartbeats 16000000
theorem cna0{P G:Prop}(n:P)(h:Wr P→G:=by(intro n;first|((with_reducible apply kC);first|exact gB ⟨_,fit_a _ _ _,.mk rfl n.p⟩|exact gB ⟨_,hsum,.mk rfl n.p⟩|exact gB ⟨_,hte,.mk rfl n.p⟩|exact gB ⟨_,zel _ _ _ _,.mk rfl n.p⟩|exact gB ⟨_,htd,.mk rfl n.p⟩|exact gB ⟨_,hs0,.mk rfl n.p⟩|exact gB ⟨_,hh,.mk rfl n.p⟩|exact gB ⟨_,hsm,.mk rfl n.p⟩|exact gB ⟨_,hnw,.mk rfl n.p⟩|exact gK n.p|exact gS n.p)|exact⟨_,fit_a _ _ _,n.p⟩|exact⟨_,hsum,n.p⟩|exact⟨_,hte,n.p⟩|exact⟨_,zel _ _ _ _,n.p⟩|exact⟨_,htd,n.p⟩|exact⟨_,hs0,n.p⟩|exact⟨_,hh,n.p⟩|exact⟨_,hsm,n.p⟩|exact⟨_,hnw,n.p⟩|exact sk n.p|exact ap n.p)):G:=h ⟨n⟩
theorem yo9{G:Prop}(h:G:=by((repeat' (first|(with_reducible refine gED ?_ (by kernel_rfl)) |refine sy ?_|(refine aZ ?_;intros)|refine cna0 ?_|(refine s2 ?_ ?_<;>intro h7<;>try omega)));refine fe ?_;rfl)):G:=h
theorem ynw(u:Nat→ByteArray)(hsum:AFn (cx (zch u)) 15 [] (vb true))(most:Int)(ss:List Slip)(ms:List SumR)(slip other kind x y:Int)(hq0:0≤slip)(hq1:slip<256)(ho0:0≤other)(ho1:other<256)(hk0:0≤kind)(hk1:kind<256) :
  Top (cx (zch u)) 12 [bk most ss ms,.val (.int .u8 slip),.val (.int .u8 other),.val (.int .u8 kind),.agg [vi x,vi y]] (vb true):=by
 refine top_by Tryz.func12 (by kernel_rfl) rfl Tryz.ntmps12 rfl rfl ?_ rfl
 refine zab fun Q hQ=>?_
 have hlm:((ss.map Slip.row).length:Int)=(ss.length:Int):=by simp
 by_cases hfit:(ss.length≤20∧ms.length≤20)∧zak most ss ms=0
 case neg =>have hd1:decide ((ss.length≤20∧ms.length≤20)∧zak most ss ms=0)=false:=decide_eq_false hfit;exact yo9
 have hd1:decide ((ss.length≤20∧ms.length≤20)∧zak most ss ms=0)=true:=decide_eq_true hfit
 obtain⟨⟨hn,hm⟩,hc⟩:=hfit
 have hg:=(za2 most ss ms).1 hc
 by_cases hne:ss.length=0
 ·have hd2:decide (((ss.map Slip.row).length:Int)=0)=true:=decide_eq_true (by omega);exact yo9
 have hd2:decide (((ss.map Slip.row).length:Int)=0)=false:=decide_eq_false (by omega)
 have hr:0≤slip % ((ss.map Slip.row).length:Int)∧slip % ((ss.map Slip.row).length:Int)<((ss.map Slip.row).length:Int):=⟨Int.emod_nonneg _ (by omega),Int.emod_lt_of_pos _ (by omega)⟩
 obtain⟨k,hk⟩:∃k:Nat,slip % ((ss.map Slip.row).length:Int)=(k:Int):=⟨(slip % ((ss.map Slip.row).length:Int)).toNat,by omega⟩
 have hkl:k<ss.length:=by omega
 have hmod:0≤slip∧0<((ss.map Slip.row).length:Int):=⟨hq0,by omega⟩
 obtain⟨s,hs⟩:∃s,ss[k]?=some s:=⟨_,kaa hkl⟩
 have hgd:ss.getD k d7=s:=by simp [hs]
 have hte:=yol (u:=u) most ss ms (slip % ((ss.map Slip.row).length:Int)) x y hn hm
 have hs0:=ynz u
 by_cases hx:0≤x∧x≤y∧y≤999
 case neg =>
  have hdx:(!decide (0≤x∧x≤y∧y≤999))=true:=by rw [decide_eq_false hx];rfl
  have hO:ykh most ss ms (slip % ((ss.map Slip.row).length:Int)) x y=1:=by rw [ykh,if_neg (by simp [hc]),if_neg (by omega),if_pos hx]
  rw [hO,(ykg (by decide)).1,(ykg (by decide)).2] at hte;exact yo9
 have hdx:(!decide (0≤x∧x≤y∧y≤999))=false:=by rw [decide_eq_true hx];rfl
 have htd:=yok (G:=zch u) most ss ms k s x y hn hs
 rw [←hk] at htd
 have hrow:((ss.set k (ykk x y s)).map Slip.row)[k]?=some (ykk x y s).row:=by rw [kaq,kc5 hkl];rfl
 have hil:k<((ss.set k (ykk x y s)).map Slip.row).length:=by simp;exact hkl
 by_cases h9:max s.lo x > min s.hi y
 ·have hd9:decide (min s.hi y<max s.lo x)=true:=decide_eq_true h9;have hO:ykh most ss ms (slip % ((ss.map Slip.row).length:Int)) x y=9:=by rw [ykh,if_neg (by simp [hc]),if_neg (by omega),if_neg (by simpa using hx),hk,kb9,hgd,if_pos h9]
  rw [hO,(ykg (by decide)).1,(ykg (by decide)).2] at hte;exact yo9
 have hd9:decide (min s.hi y<max s.lo x)=false:=decide_eq_false h9
 have hO:ykh most ss ms (slip % ((ss.map Slip.row).length:Int)) x y=0:=by rw [ykh,if_neg (by simp [hc]),if_neg (by omega),if_neg (by simpa using hx),hk,kb9,hgd,if_neg h9]
 have hSS:yll ss (slip % ((ss.map Slip.row).length:Int)) x y=ss.set k (ykk x y s):=by rw [yll,hk,kb9,hgd]
 have hb:ykl (ykk x y s) s:=⟨rfl,rfl,rfl,rfl,by simp only [ykk];omega,by simp only [ykk];omega,id,id⟩
 have hso:=hg.slip k s hs
 have hg2:Good most (ss.set k (ykk x y s)) ms:=yn5 hg hs hb (by simp only [ykk];omega) hso.sg hso.sg0
 have hn2:(ss.set k (ykk x y s)).length≤20:=by simpa using hn
 have hh:=zkg (u:=u) most (ss.set k (ykk x y s)) ms hn2 hm
 have hN:zr3 most (ss.set k (ykk x y s)) ms=(((zah most (ss.set k (ykk x y s)) ms).length:Int),0):=by simp [zr3,(za2 _ _ _).2 hg2]
 have hL:=look_if hg2
 have e:ymx 0 most (ss.set k (ykk x y s)) ms=zbt most (ss.set k (ykk x y s)) ms 0:=if_neg (by simp)
 rw [hN] at hh
 rw [hO,hSS,ymi,e] at hte
 by_cases hH:(zah most (ss.set k (ykk x y s)) ms).length=0
 ·have hdh:decide (((zah most (ss.set k (ykk x y s)) ms).length:Int)=0)=true:=by simpa using hH
  rw [if_pos hH] at hL;rw [hL,if_neg (by decide)] at hte;exact yo9
 ·have hdh:decide (((zah most (ss.set k (ykk x y s)) ms).length:Int)=0)=false:=by simpa using hH
  rw [if_neg hH] at hL;rw [hL,if_pos rfl] at hte;have hsub:=ykw (by simp:(ss.set k (ykk x y s)).length=ss.length) (yk5 hs hb) most ms;have hl1:zbt most ss ms 0=0:=by rw [look_if hg,if_neg (by have:=hsub.length_le;omega)]
  have hnw:=ymy (u:=u) ho0 ho1 hk0 hk1 hn hm hn2 hm (ylu (by simp) (yk5 hs hb) ho0 hk0 hl1 hL);have hsm:=yi2 (G:=zch u) most (ss.set k (ykk x y s)) ms hn2 hm;generalize ss.set k (ykk x y s)=SS at *;exact yo9
end
end Go.Ab.J
