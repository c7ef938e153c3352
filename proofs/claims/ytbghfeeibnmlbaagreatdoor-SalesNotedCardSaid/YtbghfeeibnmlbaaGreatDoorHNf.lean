/- For every book, every sum and all numbers SalesNoted answers true, whatever other goroutines do, and leaves its arguments as they were. Conditions: those of the given row, none else. -/
import Derived.Test.YtbghfeeibnmlbaaGreatDoorHNe
import Derived.AtR
import Derived.Calls
import Derived.ChangeKeysEq
import Derived.Conc.AtomicLaws2
import Derived.Conc.Beside
import Derived.Conc.ClockLaws
import Derived.Conc.CompanyDraw
import Derived.Conc.CompanyMem
import Derived.Conc.HoldsTime
import Derived.Conc.LockJoin
import Derived.Conc.MarkLaws
import Derived.Conc.MuSpec
import Derived.Conc.MuStops
import Derived.Conc.Own
import Derived.Conc.Starve
import Derived.Conc.WgArith
import Derived.Great.BuildSlice
import Derived.Great.FillDense
import Derived.Laws.Bits64b
import Derived.Laws.CopyRow
import Derived.Laws.MakeOwn
import Derived.Laws.OwnMore
import Derived.Laws.Sem
import Derived.Laws.Shifts
import Derived.Laws.StructEq
import Derived.LoopNIn
import Derived.MapKept
import Derived.Maps.AppendAt
import Derived.OwnWalkIn
import Derived.ProofKit
import Derived.RangeFuncBound
import Derived.RangeFuncCalls
import Derived.RangeFuncLeaves
import Derived.RangeFuncNested
import Derived.RangeFuncRecord
import Derived.Shelf.Abstract
import Derived.Sort.AssemblyPlain
import Derived.Sort.LotD4
import Derived.Sort.LotD5
import Derived.TacticsInMore
import Derived.Test.YtbghfeeibnmlbaaGreatDoorCards
import Derived.Test.YtbghfeeibnmlbaaGreatDoorProg
import Derived.Test.YtbghfeeibnmlbaaGreatDoorRows
import Derived.Test.YtbghfeeibnmlbaaGreatDoorTie
import Derived.WalkKit
namespace Go.Ab.J
open Go Go.Proofs Go.Kp
section
variable{G:zbf}{u:Nat→ByteArray}
theorem ypb{α:Type}(l:List α)(x d:α){j:Nat}(h:j<l.length):(l++[x]).getD j d=l.getD j d:=by simp only [kai];rw [kam h]
theorem ypc(ss:List Slip)(ms:List SumR)(m:SumR)(am:List Int){n:Nat}(h:n≤ms.length):zao ss (ms++[m]) am n=zao ss ms am n:=by unfold zao;congr 1;refine List.filter_congr fun j hj=>?_;rw [ka3] at hj;rw [ypb _ _ _ (by omega)]
theorem ypd(ss:List Slip)(ms:List SumR)(m:SumR)(am:List Int):zan ss (ms++[m]) am=zan ss ms am++(if zd3 ss am m then [(ms.length:Int)] else []):=by unfold zan;rw [kbx,List.length_singleton,Go.Kp.zcr,ypc _ _ _ _ (kac _)];congr 2;rw [show(ms++[m]).getD ms.length d5=m by simp]
theorem ypk{most:Int}{ss:List Slip}{ms:List SumR}{m:SumR}(p:zd6)(h:agP most ss (ms++[m]) p=true):agP most ss ms p=true:=by
 unfold agP zeh at *;simp only [ka0,decide_eq_true_eq] at *;obtain⟨⟨h1,h2⟩,h3⟩:=h;rw [ypd] at h1 h2;refine⟨⟨?_,?_⟩,h3⟩
 ·rw [kbx] at h1;omega
 ·unfold ybf at *;simp only [kb7,List.any_eq_false] at *;intro x hx;have hr:=Go.Kp.zd9 ss ms _ x hx;have:=h2 x (List.mem_append_left _ hx);rwa [ypb _ _ _ (by omega)] at this
theorem ypa(most:Int)(ss:List Slip)(ms:List SumR)(m:SumR):(zah most ss (ms++[m])).Sublist (zah most ss ms):=ykn (fun p hp=>ypk p hp) (List.Sublist.refl _)
theorem ype{most:Int}{ss:List Slip}{ms:List SumR}{m:SumR}{slip kind:Int}(hs0:0≤slip)(hk0:0≤kind)(l1:zbt most ss ms 0=0)(l2:zbt most ss (ms++[m]) 0=0):ynu most ss ms most ss (ms++[m]) slip kind :=
 ynf hs0 hk0 l1 l2 rfl (ypa most ss ms m).length_le (fun _ _ _=>rfl) fun p hp=>⟨p,(ypa most ss ms m).subset hp,fun _=>rfl⟩
attribute [local irreducible] AOp AW ADr AFn ze1 AFt AOpJ
set_option maxRecDepth 20000
set_option maxHeartbeats 16000000
theorem cnc0{P G:Prop}(n:P)(h:Wr P→G:=by(intro n;first|((with_reducible apply kC);first|exact gB ⟨_,fit_a _ _ _,.mk rfl n.p⟩|exact gB ⟨_,hsum,.mk rfl n.p⟩|exact gB ⟨_,hnt,.mk rfl n.p⟩|exact gB ⟨_,hnd,.mk rfl n.p⟩|exact gB ⟨_,hck,.mk rfl n.p⟩|exact gB ⟨_,hs0,.mk rfl n.p⟩|exact gB ⟨_,hh,.mk rfl n.p⟩|exact gB ⟨_,hsm,.mk rfl n.p⟩|exact gB ⟨_,hnw,.mk rfl n.p⟩|exact gK n.p|exact gS n.p)|exact⟨_,fit_a _ _ _,n.p⟩|exact⟨_,hsum,n.p⟩|exact⟨_,hnt,n.p⟩|exact⟨_,hnd,n.p⟩|exact⟨_,hck,n.p⟩|exact⟨_,hs0,n.p⟩|exact⟨_,hh,n.p⟩|exact⟨_,hsm,n.p⟩|exact⟨_,hnw,n.p⟩|exact sk n.p|exact ap n.p)):G:=h ⟨n⟩
theorem enc0{G:Prop}(h:G:=by((repeat' (first|(with_reducible refine gED ?_ (by kernel_rfl)) |refine sy ?_|(refine aZ ?_;intros)|refine cnc0 ?_|(refine s2 ?_ ?_<;>intro h7<;>try omega)));refine fe ?_;rfl)):G:=h
theorem ypg(u:Nat→ByteArray)(hsum:AFn (cx (zch u)) 15 [] (vb true))(most:Int)(ss:List Slip)(ms:List SumR)(m:SumR)(slip kind:Int)(hq0:0≤slip)(hq1:slip<256)(hk0:0≤kind)(hk1:kind<256) :
  Top (cx (zch u)) 8 [bk most ss ms,.agg m.row,.val (.int .u8 slip),.val (.int .u8 kind)] (vb true):=by
 refine top_by Tryz.func8 (by kernel_rfl) rfl Tryz.ntmps8 rfl rfl ?_ rfl
 refine zab fun Q hQ=>?_
 by_cases hfit:(ss.length≤20∧ms.length≤20)∧zak most ss ms=0
 case neg =>have hd1:decide ((ss.length≤20∧ms.length≤20)∧zak most ss ms=0)=false:=decide_eq_false hfit;exact enc0
 have hd1:decide ((ss.length≤20∧ms.length≤20)∧zak most ss ms=0)=true:=decide_eq_true hfit
 obtain⟨⟨hn,hm⟩,hc⟩:=hfit
 have hg:=(za2 most ss ms).1 hc
 have hnt:=ypi (u:=u) most ss ms m hn hm
 have hnd:=yph (G:=zch u) most ss ms m hm
 have hs0:=ynz u
 have hm2:(ms++[m]).length≤20:=by have:=hg.nms;simp;omega
 have hck:=zg8 (G:=zch u) most ss (ms++[m]) hn hm2
 have e:ymx 0 most ss (ms++[m])=zbt most ss (ms++[m]) 0:=if_neg (by simp)
 rw [hc,ymi,e] at hnt
 by_cases hc2:zak most ss (ms++[m])=0
 case neg =>
  have hdc:(!decide (zak most ss (ms++[m])=0))=true:=by simpa using hc2
  have hL:zbt most ss (ms++[m]) 0=zak most ss (ms++[m]):=by simp [zbt,hc2]
  rw [hL,if_neg hc2] at hnt;have hde:decide (zak most ss (ms++[m])=zak most ss (ms++[m]))=true:=by simp
  generalize zak most ss (ms++[m])=cc at *;exact enc0
 have hg2:=(za2 most ss (ms++[m])).1 hc2
 have hh:=zkg (u:=u) most ss (ms++[m]) hn hm2
 have hN:zr3 most ss (ms++[m])=(((zah most ss (ms++[m])).length:Int),0):=by simp [zr3,hc2]
 have hL:=look_if hg2
 rw [hN] at hh
 rw [hc2] at hck
 by_cases hH:(zah most ss (ms++[m])).length=0
 ·have hdh:decide (((zah most ss (ms++[m])).length:Int)=0)=true:=by simpa using hH
  rw [if_pos hH] at hL;rw [hL,if_neg (by decide)] at hnt;exact enc0
 ·have hdh:decide (((zah most ss (ms++[m])).length:Int)=0)=false:=by simpa using hH
  rw [if_neg hH] at hL;rw [hL,if_pos rfl] at hnt;have hl1:zbt most ss ms 0=0:=by rw [look_if hg,if_neg (by have:=(ypa most ss ms m).length_le;omega)]
  have hnw:=ymy (u:=u) hq0 hq1 hk0 hk1 hn hm hn hm2 (ype hq0 hk0 hl1 hL);have hsm:=yi2 (G:=zch u) most ss (ms++[m]) hn hm2;generalize ms++[m]=MM at *;exact enc0
end
end Go.Ab.J
namespace Go.Proofs.YtbghfeeibnmlbaaGreatDoor
open Go Go.Ab Go.ChangeShapes Go.WideShapes Go.ChangeAt Go.RowKit Go.Conc Go.ConcM Go.Ab.J
theorem z0b:Tryz.f8.params=#[25,76,5,5]:=by kernel_rfl
set_option maxRecDepth 100000 in
theorem yaa(hlaw:∀u most ss ms (a1:Go.Kp.SumR) a2 a3,0≤a2→a2<256→0≤a3→a3<256→Top (cx (zch u)) 8 [bk most ss ms,.agg a1.row,.val (.int .u8 a2),.val (.int .u8 a3)] (.val (.bool true)))
  (os:Os) (started:os.Started) (H:Type) (enc:TypeId×Value→H) (F:Stop.Interp) :
  ReturnsInLeavingWide Rows.salesNotedRow.assume Tryz.checked os 8 .any (fun w args=>(Rows.salesNotedSpec.pre enc Tryz.prog Tryz.f8 [] false w args∧laidMetH Tryz.prog Rows.salesNotedRow.laid w)∧sizedMet enc Tryz.prog Tryz.f8 (OpenSpec.ofChange Rows.salesNotedSpec) false w args)
   ((OpenSpec.ofChange Rows.salesNotedSpec).postWith enc Tryz.prog Tryz.f8 F (outsideKept [.timePasses]) false true false):=by
 refine zt2 (C:=Tryz.checked) (X:=fun w _=>laidMetH Tryz.prog Rows.salesNotedRow.laid w) (fun _ _ _ hh h=>h.of_heap hh.symm) own0 started Tryz.func8
  (zqz (C:=Tryz.checked) (enc:=enc) (os:=os) (X:=fun w _=>laidMetH Tryz.prog Rows.salesNotedRow.laid w) (World.doorLaid Tryz.prog 30 os) #[.agg #[.int .i64 0,.slice none 0 0,.slice none 0 0],.agg #[.int .i64 0,.int .i64 0,.int .i64 0,.int .i64 0,.bool false],.int .u8 0,.int .u8 0] 8 rfl (World.shaped_of_RefB (by kernel_rfl) (by kernel_rfl)) (by kernel_rfl) (by kernel_rfl) (by kernel_rfl) (door_met os _)) ?_
 intro W base args ds gs before hval0 hW hL
 have hval:∀(j:Nat) t v,Tryz.f8.params[j]?=some t→args[j]?=some v→Value.okWide Tryz.prog W .any base t v:=hval0
 have hW':=hW
 obtain⟨p,q,hA0,hV,rfl,_,_⟩:=hW
 have hA:DataW.TrodAll enc Tryz.prog W 0 (fun _=>true) true Tryz.f8.params.toList args.toList ds p:=hA0
 rw [z0b] at hA hval
 obtain⟨v0,v1,v2,v3,d0,d1,d2,d3,p0,p1,p2,p3,rfl,rfl,rfl,h0,h1,h2,h3⟩:=trodAll_four hA
 obtain⟨rfl,rfl⟩:=trodVars_none hV
 have l0:∀x∈p0,x.block<W.heap.size:=fun x hx=>by simpa using hW'.lt x (by simp [hx])
 have l1:∀x∈p1,x.block<W.heap.size:=fun x hx=>by simpa using hW'.lt x (by simp [hx])
 have l2:∀x∈p2,x.block<W.heap.size:=fun x hx=>by simpa using hW'.lt x (by simp [hx])
 have l3:∀x∈p3,x.block<W.heap.size:=fun x hx=>by simpa using hW'.lt x (by simp [hx])
 obtain⟨most,ss,ms,r0⟩:=z2o (hval 0 25 v0 rfl rfl) h0
 obtain⟨a1,r1⟩:=ypf (hval 1 76 v1 rfl rfl) h1
 obtain⟨a2,rfl,_,_,w2⟩:=open_int u_u8 (hval 2 5 v2 rfl rfl) h2
 have r2:Rep (zca (zd0 W)) W (.val (.int .u8 a2)) (.int .u8 a2):=.val _
 obtain⟨a3,rfl,_,_,w3⟩:=open_int u_u8 (hval 3 5 v3 rfl rfl) h3
 have r3:Rep (zca (zd0 W)) W (.val (.int .u8 a3)) (.int .u8 a3):=.val _
 obtain⟨u,hu⟩:=zza hL
 clear hA0 hval0
 refine(hlaw u most ss ms a1 a2 a3 (u8_range w2).1 (u8_range w2).2 (u8_range w3).1 (u8_range w3).2).run _ (zd0 W) W _ (fun b hb=>zx7 hb) (fun b o hb ho=>?_) hu ?_ fun v w' hkeep hsize hos hout hv=>?_
 ·obtain⟨c,t,f,e⟩:=hb;rw [e] at ho;obtain rfl:=kaw ho
  trivial
 ·exact((((rNil).cons r3).cons r2).cons r1).cons r0
 ·obtain⟨_,hv⟩:=hv;obtain rfl:=hv.val_eq
  have hbel:Below W.heap.size W { w' with os:=W.os,tape:=W.tape }:=⟨rfl,rfl,hout,hsize,hkeep⟩
  exact⟨⟨_,_,_,[],_,[],hW',trodAll_mk1 (shut_bool z7g _),DataW.TrodAll.of_heap (w:={ w' with os:=W.os,tape:=W.tape }) (by rfl) (trodAll_mk4 (Below.trod laidOut0 (by kernel_rfl) (of_decide_eq_true (by kernel_rfl)) h0 hbel l0) (Below.trod laidOut0 (by kernel_rfl) (of_decide_eq_true (by kernel_rfl)) h1 hbel l1) (Below.trod laidOut0 (by kernel_rfl) (of_decide_eq_true (by kernel_rfl)) h2 hbel l2) (Below.trod laidOut0 (by kernel_rfl) (of_decide_eq_true (by kernel_rfl)) h3 hbel l3)),rfl,kept_of (hbel.frame _),fun h=>by cases h⟩,hos⟩
theorem kfN:Tryz.checked.prog.funcNamed Rows.salesNotedRow.func=some 8:=by kernel_rfl
theorem kfJ:joinedFacts Tryz.checked.prog 8 Tryz.f8 Rows.salesNotedSpec Rows.salesNotedRow=true:=by kernel_rfl
theorem kfI:Tryz.f8.isInstance Tryz.checked.prog Rows.salesNotedRow.origin Rows.salesNotedRow.targs:=of_decide_eq_true (by kernel_rfl)
theorem kfP:Tryz.f8.isWrapper Tryz.checked.prog Rows.salesNotedRow.wrapper Rows.salesNotedRow.mainSum:=by unfold Func.isWrapper;first|(rw [if_pos (by decide +kernel)];kernel_rfl)|(rw [if_neg (by decide +kernel)];exact⟨rfl,rfl⟩)
theorem kfW:Rows.salesNotedRow.wfByText (OpenSpec.ofChange Rows.salesNotedSpec)=true:=by kernel_rfl
theorem kfM : Tryz.checked.prog.mainIs = some (true, "29e4bc56b4cfdc3cc5c4aad648f5eca0653f61613beb5e82a27b472fb4c02e17".toList) := by kernel_rfl
theorem kfL:false=Tryz.checked.prog.looks []:=by kernel_rfl
theorem kfS:([25,76,5,5].all fun u=>!Tryz.prog.wantsStandIn u)=true:=by kernel_rfl
theorem kfG:true=Rows.salesNotedRow.goesBy Tryz.checked.prog:=by kernel_rfl
theorem yox(hlaw:∀u most ss ms (a1:Go.Kp.SumR) a2 a3,0≤a2→a2<256→0≤a3→a3<256→Top (cx (zch u)) 8 [bk most ss ms,.agg a1.row,.val (.int .u8 a2),.val (.int .u8 a3)] (.val (.bool true))):Rows.SalesNotedSaid :=
 OpenClaim.holds_of_wide_leaving_time 8 Tryz.f8 rfl rfl rfl rfl rfl rfl rfl ⟨rfl,rfl,rfl,rfl,rfl⟩ rfl rfl rfl rfl rfl kfN Tryz.func8 kfJ kfI kfP (fun os started H enc _ F=>yaa hlaw os started H enc F)
theorem ybe(hlaw:∀u most ss ms (a1:Go.Kp.SumR) a2 a3,0≤a2→a2<256→0≤a3→a3<256→Top (cx (zch u)) 8 [bk most ss ms,.agg a1.row,.val (.int .u8 a2),.val (.int .u8 a3)] (.val (.bool true))):Rows.SalesNotedCardSaid :=
 zmn .later [.funcs, .funcs] true (true, "29e4bc56b4cfdc3cc5c4aad648f5eca0653f61613beb5e82a27b472fb4c02e17") false (yox hlaw) kfW salesNoted_row_tie rfl ⟨rfl, rfl⟩ kfM rfl
  (fun f fn hf hfn=>by
    obtain rfl:f=8:=kaw (kfN.symm.trans hf) |>.symm;obtain rfl:fn=Tryz.f8:=(kaw (Tryz.func8.symm.trans hfn)).symm
    exact⟨kfL,fun j t ht=>by
     rw [z0b] at ht;have hm:t∈[25,76,5,5]:=by simpa using kbl ht
     exact(show Tryz.prog.wantsStandIn t=false by simpa using kar.1 kfS t hm)⟩) kfG
end Go.Proofs.YtbghfeeibnmlbaaGreatDoor
namespace Go.Proofs.YtbghfeeibnmlbaaGreatDoor
open Go Go.Ab Go.Ab.J
theorem salesNoted_holds:Rows.SalesNotedCardSaid:=ybe fun u most ss ms m a2 a3 h2 h3 h4 h5=>ypg u summed_a most ss ms m a2 a3 h2 h3 h4 h5
end Go.Proofs.YtbghfeeibnmlbaaGreatDoor
