/- For every book, all numbers and every span SalesTold answers true, whatever other goroutines do, and leaves its arguments as they were. Conditions: those of the given row. -/
import Derived.Test.YtbghfeeibnmlbaaGreatDoorHTf
namespace Go.Proofs.YtbghfeeibnmlbaaGreatDoor
open Go Go.Ab Go.ChangeShapes Go.WideShapes Go.ChangeAt Go.RowKit Go.Conc Go.ConcM Go.Ab.J
theorem z0b:Tryz.f12.params=#[25,5,5,5,30]:=by kernel_rfl
set_option maxRecDepth 100000 in
theorem yaa(hlaw:∀u most ss ms a1 a2 a3 x4 y4,0≤a1→a1<256→0≤a2→a2<256→0≤a3→a3<256→Top (cx (zch u)) 12 [bk most ss ms,.val (.int .u8 a1),.val (.int .u8 a2),.val (.int .u8 a3),.agg [.val (.int .i64 x4),.val (.int .i64 y4)]] (.val (.bool true)))
  (os:Os) (started:os.Started) (H:Type) (enc:TypeId×Value→H) (F:Stop.Interp) :
  ReturnsInLeavingWide Rows.salesToldRow.assume Tryz.checked os 12 .any (fun w args=>(Rows.salesToldSpec.pre enc Tryz.prog Tryz.f12 [] false w args∧laidMetH Tryz.prog Rows.salesToldRow.laid w)∧sizedMet enc Tryz.prog Tryz.f12 (OpenSpec.ofChange Rows.salesToldSpec) false w args)
   ((OpenSpec.ofChange Rows.salesToldSpec).postWith enc Tryz.prog Tryz.f12 F (outsideKept [.timePasses]) false true false):=by
 refine zt2 (C:=Tryz.checked) (X:=fun w _=>laidMetH Tryz.prog Rows.salesToldRow.laid w) (fun _ _ _ hh h=>h.of_heap hh.symm) own0 started Tryz.func12
  (zqz (C:=Tryz.checked) (enc:=enc) (os:=os) (X:=fun w _=>laidMetH Tryz.prog Rows.salesToldRow.laid w) (World.doorLaid Tryz.prog 30 os) #[.agg #[.int .i64 0,.slice none 0 0,.slice none 0 0],.int .u8 0,.int .u8 0,.int .u8 0,.agg #[.int .i64 0,.int .i64 0]] 8 rfl (World.shaped_of_RefB (by kernel_rfl) (by kernel_rfl)) (by kernel_rfl) (by kernel_rfl) (by kernel_rfl) (door_met os _)) ?_
 intro W base args ds gs before hval0 hW hL
 have hval:∀(j:Nat) t v,Tryz.f12.params[j]?=some t→args[j]?=some v→Value.okWide Tryz.prog W .any base t v:=hval0
 have hW':=hW
 obtain⟨p,q,hA0,hV,rfl,_,_⟩:=hW
 have hA:DataW.TrodAll enc Tryz.prog W 0 (fun _=>true) true Tryz.f12.params.toList args.toList ds p:=hA0
 rw [z0b] at hA hval
 obtain⟨v0,v1,v2,v3,v4,d0,d1,d2,d3,d4,p0,p1,p2,p3,p4,rfl,rfl,rfl,h0,h1,h2,h3,h4⟩:=yl3 hA
 obtain⟨rfl,rfl⟩:=trodVars_none hV
 have l0:∀x∈p0,x.block<W.heap.size:=fun x hx=>by simpa using hW'.lt x (by simp [hx])
 have l1:∀x∈p1,x.block<W.heap.size:=fun x hx=>by simpa using hW'.lt x (by simp [hx])
 have l2:∀x∈p2,x.block<W.heap.size:=fun x hx=>by simpa using hW'.lt x (by simp [hx])
 have l3:∀x∈p3,x.block<W.heap.size:=fun x hx=>by simpa using hW'.lt x (by simp [hx])
 have l4:∀x∈p4,x.block<W.heap.size:=fun x hx=>by simpa using hW'.lt x (by simp [hx])
 obtain⟨most,ss,ms,r0⟩:=z2o (hval 0 25 v0 rfl rfl) h0
 obtain⟨a1,rfl,_,_,w1⟩:=open_int u_u8 (hval 1 5 v1 rfl rfl) h1
 have r1:Rep (zca (zd0 W)) W (.val (.int .u8 a1)) (.int .u8 a1):=.val _
 obtain⟨a2,rfl,_,_,w2⟩:=open_int u_u8 (hval 2 5 v2 rfl rfl) h2
 have r2:Rep (zca (zd0 W)) W (.val (.int .u8 a2)) (.int .u8 a2):=.val _
 obtain⟨a3,rfl,_,_,w3⟩:=open_int u_u8 (hval 3 5 v3 rfl rfl) h3
 have r3:Rep (zca (zd0 W)) W (.val (.int .u8 a3)) (.int .u8 a3):=.val _
 obtain⟨x4,y4,r4⟩:=ymv (hval 4 30 v4 rfl rfl) h4
 obtain⟨u,hu⟩:=zza hL
 clear hA0 hval0
 refine(hlaw u most ss ms a1 a2 a3 x4 y4 (u8_range w1).1 (u8_range w1).2 (u8_range w2).1 (u8_range w2).2 (u8_range w3).1 (u8_range w3).2).run _ (zd0 W) W _ (fun b hb=>zx7 hb) (fun b o hb ho=>?_) hu ?_ fun v w' hkeep hsize hos hout hv=>?_
 ·obtain⟨c,t,f,e⟩:=hb;rw [e] at ho;obtain rfl:=kaw ho
  trivial
 ·exact(((((rNil).cons r4).cons r3).cons r2).cons r1).cons r0
 ·obtain⟨_,hv⟩:=hv;obtain rfl:=hv.val_eq
  have hbel:Below W.heap.size W { w' with os:=W.os,tape:=W.tape }:=⟨rfl,rfl,hout,hsize,hkeep⟩
  exact⟨⟨_,_,_,[],_,[],hW',trodAll_mk1 (shut_bool z7g _),DataW.TrodAll.of_heap (w:={ w' with os:=W.os,tape:=W.tape }) (by rfl) (yks (Below.trod laidOut0 (by kernel_rfl) (of_decide_eq_true (by kernel_rfl)) h0 hbel l0) (yks (Below.trod laidOut0 (by kernel_rfl) (of_decide_eq_true (by kernel_rfl)) h1 hbel l1) (yks (Below.trod laidOut0 (by kernel_rfl) (of_decide_eq_true (by kernel_rfl)) h2 hbel l2) (yks (Below.trod laidOut0 (by kernel_rfl) (of_decide_eq_true (by kernel_rfl)) h3 hbel l3) (trodAll_mk1 (Below.trod laidOut0 (by kernel_rfl) (of_decide_eq_true (by kernel_rfl)) h4 hbel l4)))))),rfl,kept_of (hbel.frame _),fun h=>by cases h⟩,hos⟩
theorem kfN:Tryz.checked.prog.funcNamed Rows.salesToldRow.func=some 12:=by kernel_rfl
theorem kfJ:joinedFacts Tryz.checked.prog 12 Tryz.f12 Rows.salesToldSpec Rows.salesToldRow=true:=by kernel_rfl
theorem kfI:Tryz.f12.isInstance Tryz.checked.prog Rows.salesToldRow.origin Rows.salesToldRow.targs:=of_decide_eq_true (by kernel_rfl)
theorem kfP:Tryz.f12.isWrapper Tryz.checked.prog Rows.salesToldRow.wrapper Rows.salesToldRow.mainSum:=by unfold Func.isWrapper;first|(rw [if_pos (by decide +kernel)];kernel_rfl)|(rw [if_neg (by decide +kernel)];exact⟨rfl,rfl⟩)
theorem kfW:Rows.salesToldRow.wfByText (OpenSpec.ofChange Rows.salesToldSpec)=true:=by kernel_rfl
theorem kfM : Tryz.checked.prog.mainIs = some (true, "29e4bc56b4cfdc3cc5c4aad648f5eca0653f61613beb5e82a27b472fb4c02e17".toList) := by kernel_rfl
theorem kfL:false=Tryz.checked.prog.looks []:=by kernel_rfl
theorem kfS:([25,5,5,5,30].all fun u=>!Tryz.prog.wantsStandIn u)=true:=by kernel_rfl
theorem kfG:true=Rows.salesToldRow.goesBy Tryz.checked.prog:=by kernel_rfl
theorem yox(hlaw:∀u most ss ms a1 a2 a3 x4 y4,0≤a1→a1<256→0≤a2→a2<256→0≤a3→a3<256→Top (cx (zch u)) 12 [bk most ss ms,.val (.int .u8 a1),.val (.int .u8 a2),.val (.int .u8 a3),.agg [.val (.int .i64 x4),.val (.int .i64 y4)]] (.val (.bool true))):Rows.SalesToldSaid :=
 OpenClaim.holds_of_wide_leaving_time 12 Tryz.f12 rfl rfl rfl rfl rfl rfl rfl ⟨rfl,rfl,rfl,rfl,rfl⟩ rfl rfl rfl rfl rfl kfN Tryz.func12 kfJ kfI kfP (fun os started H enc _ F=>yaa hlaw os started H enc F)
theorem ybe(hlaw:∀u most ss ms a1 a2 a3 x4 y4,0≤a1→a1<256→0≤a2→a2<256→0≤a3→a3<256→Top (cx (zch u)) 12 [bk most ss ms,.val (.int .u8 a1),.val (.int .u8 a2),.val (.int .u8 a3),.agg [.val (.int .i64 x4),.val (.int .i64 y4)]] (.val (.bool true))):Rows.SalesToldCardSaid :=
 zmn .later [.funcs, .funcs] true (true, "29e4bc56b4cfdc3cc5c4aad648f5eca0653f61613beb5e82a27b472fb4c02e17") false (yox hlaw) kfW salesTold_row_tie rfl ⟨rfl, rfl⟩ kfM rfl
  (fun f fn hf hfn=>by
    obtain rfl:f=12:=kaw (kfN.symm.trans hf) |>.symm;obtain rfl:fn=Tryz.f12:=(kaw (Tryz.func12.symm.trans hfn)).symm
    exact⟨kfL,fun j t ht=>by
     rw [z0b] at ht;have hm:t∈[25,5,5,5,30]:=by simpa using kbl ht
     exact(show Tryz.prog.wantsStandIn t=false by simpa using kar.1 kfS t hm)⟩) kfG
end Go.Proofs.YtbghfeeibnmlbaaGreatDoor
namespace Go.Proofs.YtbghfeeibnmlbaaGreatDoor
open Go Go.Ab Go.Ab.J
theorem salesTold_holds:Rows.SalesToldCardSaid:=ybe fun u most ss ms a1 a2 a3 x y h0 h1 h2 h3 h4 h5=>ynw u summed_a most ss ms a1 a2 a3 x y h0 h1 h2 h3 h4 h5
end Go.Proofs.YtbghfeeibnmlbaaGreatDoor
