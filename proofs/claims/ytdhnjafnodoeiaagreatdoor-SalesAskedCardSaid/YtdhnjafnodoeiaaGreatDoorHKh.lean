/- For every book, whatever was written and whichever sums are false, the function SalesAsked answers true, whatever other goroutines do, and leaves its arguments as they were. Conditions: those of the given row. -/
import Derived.Test.YtdhnjafnodoeiaaGreatDoorHKg
import Derived.Conc.HoldsTime
import Derived.ProofKit
import Derived.Test.YtdhnjafnodoeiaaGreatDoorCards
import Derived.Test.YtdhnjafnodoeiaaGreatDoorRows
import Derived.Test.YtdhnjafnodoeiaaGreatDoorTie
namespace Go.Proofs.YtdhnjafnodoeiaaGreatDoor
open Go Go.Ab Go.ChangeShapes Go.WideShapes Go.ChangeAt Go.RowKit Go.Conc Go.ConcM Go.Ab.J
theorem z0b:Tryz.f6.params=#[25,44,5]:=by kernel_rfl
set_option maxRecDepth 100000 in
theorem yaa(hlaw:∀u most ss ms ps1 a2,(∀x∈ps1,x<65536)→0≤a2→a2<256→Top (cx (zch u)) 6 [bk most ss ms,.sl 1 (ygx ps1),.val (.int .u8 a2)] (.val (.bool true)))
  (os:Os) (started:os.Started) (H:Type) (enc:TypeId×Value→H) (F:Stop.Interp) :
  ReturnsInLeavingWide Rows.salesAskedRow.assume Tryz.checked os 6 .any (fun w args=>(Rows.salesAskedSpec.pre enc Tryz.prog Tryz.f6 [] false w args∧laidMetH Tryz.prog Rows.salesAskedRow.laid w)∧sizedMet enc Tryz.prog Tryz.f6 (OpenSpec.ofChange Rows.salesAskedSpec) false w args)
   ((OpenSpec.ofChange Rows.salesAskedSpec).postWith enc Tryz.prog Tryz.f6 F (outsideKept [.timePasses]) false true false):=by
 refine of_time_and (C:=Tryz.checked) (X:=fun w _=>laidMetH Tryz.prog Rows.salesAskedRow.laid w) (fun _ _ _ hh h=>h.of_heap hh.symm) own0 started Tryz.func6
  (witness_calm (C:=Tryz.checked) (enc:=enc) (os:=os) (X:=fun w _=>laidMetH Tryz.prog Rows.salesAskedRow.laid w) (World.doorLaid Tryz.prog 30 os) #[.agg #[.int .i64 0,.slice none 0 0,.slice none 0 0],.slice none 0 0,.int .u8 0] 8 rfl (World.shaped_of_RefB (by kernel_rfl) (by kernel_rfl)) (by kernel_rfl) (by kernel_rfl) (by kernel_rfl) (door_met os _)) ?_
 intro W base args ds gs before hval0 hW hL
 have hval:∀(j:Nat) t v,Tryz.f6.params[j]?=some t→args[j]?=some v→Value.okWide Tryz.prog W .any base t v:=hval0
 have hW':=hW
 obtain⟨p,q,hA0,hV,rfl,_,_⟩:=hW
 have hA:DataW.TrodAll enc Tryz.prog W 0 (fun _=>true) true Tryz.f6.params.toList args.toList ds p:=hA0
 rw [z0b] at hA hval
 obtain⟨v0,v1,v2,d0,d1,d2,p0,p1,p2,rfl,rfl,rfl,h0,h1,h2⟩:=trodAll_three hA
 obtain⟨rfl,rfl⟩:=trodVars_none hV
 have l0:∀x∈p0,x.block<W.heap.size:=fun x hx=>by simpa using hW'.lt x (by simp [hx])
 have l1:∀x∈p1,x.block<W.heap.size:=fun x hx=>by simpa using hW'.lt x (by simp [hx])
 have l2:∀x∈p2,x.block<W.heap.size:=fun x hx=>by simpa using hW'.lt x (by simp [hx])
 obtain⟨most,ss,ms,r0⟩:=book_open (hval 0 25 v0 rfl rfl) h0
 obtain⟨ps1,q1,r1⟩:=yhi (hval 1 44 v1 rfl rfl) h1
 obtain⟨a2,rfl,_,_,w2⟩:=open_int u_u8 (hval 2 5 v2 rfl rfl) h2
 have r2:Rep (zca (zd0 W)) W (.val (.int .u8 a2)) (.int .u8 a2):=.val _
 obtain⟨u,hu⟩:=tabs_open hL
 clear hA0 hval0
 refine(hlaw u most ss ms ps1 a2 q1 (yim w2).1 (yim w2).2).run _ (zd0 W) W _ (fun b hb=>zx7 hb) (fun b o hb ho=>?_) hu ?_ fun v w' hkeep hsize hos hout hv=>?_
 ·obtain⟨c,t,f,e⟩:=hb;rw [e] at ho;obtain rfl:=kaw ho
  trivial
 ·exact(((rNil).cons r2).cons r1).cons r0
 ·obtain⟨_,hv⟩:=hv;obtain rfl:=hv.val_eq
  have hbel:Below W.heap.size W { w' with os:=W.os,tape:=W.tape }:=⟨rfl,rfl,hout,hsize,hkeep⟩
  exact⟨⟨_,_,_,[],_,[],hW',trodAll_mk1 (shut_bool z7g _),DataW.TrodAll.of_heap (w:={ w' with os:=W.os,tape:=W.tape }) (by rfl) (trodAll_mk3 (Below.trod laidOut0 (by kernel_rfl) (of_decide_eq_true (by kernel_rfl)) h0 hbel l0) (Below.trod laidOut0 (by kernel_rfl) (of_decide_eq_true (by kernel_rfl)) h1 hbel l1) (Below.trod laidOut0 (by kernel_rfl) (of_decide_eq_true (by kernel_rfl)) h2 hbel l2)),rfl,kept_of (hbel.frame _),fun h=>by cases h⟩,hos⟩
theorem ybe(hlaw:∀u most ss ms ps1 a2,(∀x∈ps1,x<65536)→0≤a2→a2<256→Top (cx (zch u)) 6 [bk most ss ms,.sl 1 (ygx ps1),.val (.int .u8 a2)] (.val (.bool true))):Rows.SalesAskedCardSaid:=by
 have hrow:Rows.SalesAskedSaid:=OpenClaim.holds_of_wide_leaving_time 6 Tryz.f6 rfl rfl rfl rfl rfl rfl rfl ⟨rfl,rfl,rfl,rfl,rfl⟩ rfl rfl rfl rfl rfl (by kernel_rfl) Tryz.func6 (by kernel_rfl)
  (of_decide_eq_true (by kernel_rfl)) (by unfold Func.isWrapper;first|(rw [if_pos (by decide +kernel)];kernel_rfl)|(rw [if_neg (by decide +kernel)];exact⟨rfl,rfl⟩))
  (fun os started H enc _ F=>yaa hlaw os started H enc F)
 exact holds_tied_goes .later [.funcs, .funcs] true (true, "cabb50d4f95bba07b68c3b627c649ea304854cfabfcdfe9e533477f7b9048e62") false hrow (by kernel_rfl) salesAsked_row_tie rfl ⟨rfl, rfl⟩ (by kernel_rfl) rfl
  (fun f fn hf hfn=>by
    obtain rfl : f = 6 := kaw ((show Tryz.prog.funcNamed "nosale/nosalelaw06.SalesAsked" = some 6 by kernel_rfl).symm.trans hf) |>.symm;obtain rfl:fn=Tryz.f6:=(kaw (Tryz.func6.symm.trans hfn)).symm
    exact⟨by kernel_rfl,fun j t ht=>by
     rw [z0b] at ht;have hm:t∈[25,44,5]:=by simpa using kbl ht
     have hall:([25,44,5].all fun u=>!Tryz.prog.wantsStandIn u)=true:=by kernel_rfl
     exact(show Tryz.prog.wantsStandIn t=false by simpa using kar.1 hall t hm)⟩)
  (by kernel_rfl)
end Go.Proofs.YtdhnjafnodoeiaaGreatDoor
