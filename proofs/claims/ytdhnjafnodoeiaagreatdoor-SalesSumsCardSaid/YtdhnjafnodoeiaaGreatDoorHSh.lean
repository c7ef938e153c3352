/- For every book, kind, number and index the function SalesSums answers true, whatever other goroutines do, and leaves its arguments as they were. Conditions: those of the given row. -/
import Derived.Test.YtdhnjafnodoeiaaGreatDoorHSg
import Derived.Conc.HoldsTime
import Derived.ProofKit
import Derived.Test.YtdhnjafnodoeiaaGreatDoorCards
import Derived.Test.YtdhnjafnodoeiaaGreatDoorRows
import Derived.Test.YtdhnjafnodoeiaaGreatDoorTie
namespace Go.Proofs.YtdhnjafnodoeiaaGreatDoor
open Go Go.Ab Go.ChangeShapes Go.WideShapes Go.ChangeAt Go.RowKit Go.Conc Go.ConcM Go.Ab.J
theorem z0b:Tryz.f3.params=#[25,26,3,3]:=by kernel_rfl
set_option maxRecDepth 100000 in
theorem yaa(hlaw:∀u most ss ms a1 a2 a3,Top (cx (zch u)) 3 [bk most ss ms,.val (.int .i64 a1),.val (.int .i64 a2),.val (.int .i64 a3)] (.val (.bool true)))
  (os:Os) (started:os.Started) (H:Type) (enc:TypeId×Value→H) (F:Stop.Interp) :
  ReturnsInLeavingWide Rows.salesSumsRow.assume Tryz.checked os 3 .any (fun w args=>(Rows.salesSumsSpec.pre enc Tryz.prog Tryz.f3 [] false w args∧laidMetH Tryz.prog Rows.salesSumsRow.laid w)∧sizedMet enc Tryz.prog Tryz.f3 (OpenSpec.ofChange Rows.salesSumsSpec) false w args)
   ((OpenSpec.ofChange Rows.salesSumsSpec).postWith enc Tryz.prog Tryz.f3 F (outsideKept [.timePasses]) false true false):=by
 refine of_time_and (C:=Tryz.checked) (X:=fun w _=>laidMetH Tryz.prog Rows.salesSumsRow.laid w) (fun _ _ _ hh h=>h.of_heap hh.symm) own0 started Tryz.func3
  (witness_calm (C:=Tryz.checked) (enc:=enc) (os:=os) (X:=fun w _=>laidMetH Tryz.prog Rows.salesSumsRow.laid w) (World.doorLaid Tryz.prog 30 os) #[.agg #[.int .i64 0,.slice none 0 0,.slice none 0 0],.int .i64 0,.int .i64 0,.int .i64 0] 8 rfl (World.shaped_of_RefB (by kernel_rfl) (by kernel_rfl)) (by kernel_rfl) (by kernel_rfl) (by kernel_rfl) (door_met os _)) ?_
 intro W base args ds gs before hval0 hW hL
 have hval:∀(j:Nat) t v,Tryz.f3.params[j]?=some t→args[j]?=some v→Value.okWide Tryz.prog W .any base t v:=hval0
 have hW':=hW
 obtain⟨p,q,hA0,hV,rfl,_,_⟩:=hW
 have hA:DataW.TrodAll enc Tryz.prog W 0 (fun _=>true) true Tryz.f3.params.toList args.toList ds p:=hA0
 rw [z0b] at hA hval
 obtain⟨v0,v1,v2,v3,d0,d1,d2,d3,p0,p1,p2,p3,rfl,rfl,rfl,h0,h1,h2,h3⟩:=trodAll_four hA
 obtain⟨rfl,rfl⟩:=trodVars_none hV
 have l0:∀x∈p0,x.block<W.heap.size:=fun x hx=>by simpa using hW'.lt x (by simp [hx])
 have l1:∀x∈p1,x.block<W.heap.size:=fun x hx=>by simpa using hW'.lt x (by simp [hx])
 have l2:∀x∈p2,x.block<W.heap.size:=fun x hx=>by simpa using hW'.lt x (by simp [hx])
 have l3:∀x∈p3,x.block<W.heap.size:=fun x hx=>by simpa using hW'.lt x (by simp [hx])
 obtain⟨most,ss,ms,r0⟩:=book_open (hval 0 25 v0 rfl rfl) h0
 obtain⟨a1,rfl,_,_,_⟩:=open_int u_sk (hval 1 26 v1 rfl rfl) h1
 have r1:Rep (zca (zd0 W)) W (.val (.int .i64 a1)) (.int .i64 a1):=.val _
 obtain⟨a2,rfl,_,_,_⟩:=open_int zjd (hval 2 3 v2 rfl rfl) h2
 have r2:Rep (zca (zd0 W)) W (.val (.int .i64 a2)) (.int .i64 a2):=.val _
 obtain⟨a3,rfl,_,_,_⟩:=open_int zjd (hval 3 3 v3 rfl rfl) h3
 have r3:Rep (zca (zd0 W)) W (.val (.int .i64 a3)) (.int .i64 a3):=.val _
 obtain⟨u,hu⟩:=tabs_open hL
 clear hA0 hval0
 refine(hlaw u most ss ms a1 a2 a3).run _ (zd0 W) W _ (fun b hb=>zx7 hb) (fun b o hb ho=>?_) hu ?_ fun v w' hkeep hsize hos hout hv=>?_
 ·obtain⟨c,t,f,e⟩:=hb;rw [e] at ho;obtain rfl:=kaw ho
  trivial
 ·exact((((rNil).cons r3).cons r2).cons r1).cons r0
 ·obtain⟨_,hv⟩:=hv;obtain rfl:=hv.val_eq
  have hbel:Below W.heap.size W { w' with os:=W.os,tape:=W.tape }:=⟨rfl,rfl,hout,hsize,hkeep⟩
  exact⟨⟨_,_,_,[],_,[],hW',trodAll_mk1 (shut_bool z7g _),DataW.TrodAll.of_heap (w:={ w' with os:=W.os,tape:=W.tape }) (by rfl) (trodAll_mk4 (Below.trod laidOut0 (by kernel_rfl) (of_decide_eq_true (by kernel_rfl)) h0 hbel l0) (Below.trod laidOut0 (by kernel_rfl) (of_decide_eq_true (by kernel_rfl)) h1 hbel l1) (Below.trod laidOut0 (by kernel_rfl) (of_decide_eq_true (by kernel_rfl)) h2 hbel l2) (Below.trod laidOut0 (by kernel_rfl) (of_decide_eq_true (by kernel_rfl)) h3 hbel l3)),rfl,kept_of (hbel.frame _),fun h=>by cases h⟩,hos⟩
theorem ybe(hlaw:∀u most ss ms a1 a2 a3,Top (cx (zch u)) 3 [bk most ss ms,.val (.int .i64 a1),.val (.int .i64 a2),.val (.int .i64 a3)] (.val (.bool true))):Rows.SalesSumsCardSaid:=by
 have hrow:Rows.SalesSumsSaid:=OpenClaim.holds_of_wide_leaving_time 3 Tryz.f3 rfl rfl rfl rfl rfl rfl rfl ⟨rfl,rfl,rfl,rfl,rfl⟩ rfl rfl rfl rfl rfl (by kernel_rfl) Tryz.func3 (by kernel_rfl)
  (of_decide_eq_true (by kernel_rfl)) (by unfold Func.isWrapper;first|(rw [if_pos (by decide +kernel)];kernel_rfl)|(rw [if_neg (by decide +kernel)];exact⟨rfl,rfl⟩))
  (fun os started H enc _ F=>yaa hlaw os started H enc F)
 exact holds_tied_goes .later [.funcs, .funcs] true (true, "cabb50d4f95bba07b68c3b627c649ea304854cfabfcdfe9e533477f7b9048e62") false hrow (by kernel_rfl) salesSums_row_tie rfl ⟨rfl, rfl⟩ (by kernel_rfl) rfl
  (fun f fn hf hfn=>by
    obtain rfl : f = 3 := kaw ((show Tryz.prog.funcNamed "nosale/nosalelaw06.SalesSums" = some 3 by kernel_rfl).symm.trans hf) |>.symm;obtain rfl:fn=Tryz.f3:=(kaw (Tryz.func3.symm.trans hfn)).symm
    exact⟨by kernel_rfl,fun j t ht=>by
     rw [z0b] at ht;have hm:t∈[25,26,3,3]:=by simpa using kbl ht
     have hall:([25,26,3,3].all fun u=>!Tryz.prog.wantsStandIn u)=true:=by kernel_rfl
     exact(show Tryz.prog.wantsStandIn t=false by simpa using kar.1 hall t hm)⟩)
  (by kernel_rfl)
end Go.Proofs.YtdhnjafnodoeiaaGreatDoor
