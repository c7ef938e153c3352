/- For every book, all picks and all numbers SalesReal answers true, whatever other goroutines do, and leaves its arguments as they were. Conditions: those of the given row, none else. -/
import Derived.Test.YtbnajhgbhbgjdaaGreatDoorHLg
import Derived.Test.YtbnajhgbhbgjdaaGreatDoorCards
import Derived.Test.YtbnajhgbhbgjdaaGreatDoorRows
import Derived.Test.YtbnajhgbhbgjdaaGreatDoorTie
namespace Go.Proofs.YtbnajhgbhbgjdaaGreatDoor
open Go Go.Ab Go.ChangeShapes Go.WideShapes Go.ChangeAt Go.RowKit Go.Conc Go.ConcM Go.Ab.J
theorem z0b:Tryz.f5.params=#[25,68,5,5,5]:=by kernel_rfl
set_option maxRecDepth 100000 in
theorem yaa(hlaw:∀u most ss ms ps1 a2 a3 a4,(∀x∈ps1,x<65536)->0<=a2->a2<256->0<=a3->a3<256->0<=a4->a4<256->Top (cx (zch u)) 5 [bk most ss ms,.sl 1 (ygx ps1),.val (.int .u8 a2),.val (.int .u8 a3),.val (.int .u8 a4)] (.val (.bool true)))
  (os:Os) (started:os.Started) (H:Type) (enc:TypeId×Value->H) (F:Stop.Interp) :
  ReturnsInLeavingWide Rows.salesRealRow.assume Tryz.checked os 5 .any (λw args=>(Rows.salesRealSpec.pre enc Tryz.prog Tryz.f5 [] false w args/\laidMetH Tryz.prog Rows.salesRealRow.laid w)/\sizedMet enc Tryz.prog Tryz.f5 (OpenSpec.ofChange Rows.salesRealSpec) false w args)
   ((OpenSpec.ofChange Rows.salesRealSpec).postWith enc Tryz.prog Tryz.f5 F (outsideKept [.timePasses]) false true false):=by
 refine zt2 (C:=Tryz.checked) (X:=λw _=>laidMetH Tryz.prog Rows.salesRealRow.laid w) (λ_ _ _ hh h=>h.of_heap hh.symm) own0 started Tryz.func5
  (zqz (C:=Tryz.checked) (enc:=enc) (os:=os) (X:=λw _=>laidMetH Tryz.prog Rows.salesRealRow.laid w) (World.doorLaid Tryz.prog 30 os) #[.agg #[.int .i64 0,.slice none 0 0,.slice none 0 0],.slice none 0 0,.int .u8 0,.int .u8 0,.int .u8 0] 8 rfl (World.shaped_of_RefB ot ot) ot ot ot (door_met os _)) ?_
 intro W base args ds gs before hval0 hW hL _
 have hval:∀(j:Nat) t v,Tryz.f5.params[j]?=some t->args[j]?=some v->Value.okWide Tryz.prog W .any base t v:=hval0
 have hW':=hW
 obtain⟨p,q,hA0,hV,rfl,_,_⟩:=hW
 have hA:DataW.TrodAll enc Tryz.prog W 0 (λ_=>true) true Tryz.f5.params.toList args.toList ds p:=hA0
 rw [z0b] at hA hval
 obtain⟨v0,v1,v2,v3,v4,d0,d1,d2,d3,d4,p0,p1,p2,p3,p4,rfl,rfl,rfl,h0,h1,h2,h3,h4⟩:=yl3 hA
 obtain⟨rfl,rfl⟩:=trodVars_none hV
 have l0:∀x∈p0,x.block<W.heap.size:=λx hx=>by simpa using hW'.lt x (by simp [hx])
 have l1:∀x∈p1,x.block<W.heap.size:=λx hx=>by simpa using hW'.lt x (by simp [hx])
 have l2:∀x∈p2,x.block<W.heap.size:=λx hx=>by simpa using hW'.lt x (by simp [hx])
 have l3:∀x∈p3,x.block<W.heap.size:=λx hx=>by simpa using hW'.lt x (by simp [hx])
 have l4:∀x∈p4,x.block<W.heap.size:=λx hx=>by simpa using hW'.lt x (by simp [hx])
 obtain⟨most,ss,ms,r0⟩:=z2o (hval 0 25 v0 rfl rfl) h0
 obtain⟨ps1,q1,r1⟩:=yhi (hval 1 68 v1 rfl rfl) h1
 obtain⟨a2,rfl,_,_,w2⟩:=open_int u_u8 (hval 2 5 v2 rfl rfl) h2
 have r2:Rep (zca (zd0 W)) W (.val (.int .u8 a2)) (.int .u8 a2):=.val _
 obtain⟨a3,rfl,_,_,w3⟩:=open_int u_u8 (hval 3 5 v3 rfl rfl) h3
 have r3:Rep (zca (zd0 W)) W (.val (.int .u8 a3)) (.int .u8 a3):=.val _
 obtain⟨a4,rfl,_,_,w4⟩:=open_int u_u8 (hval 4 5 v4 rfl rfl) h4
 have r4:Rep (zca (zd0 W)) W (.val (.int .u8 a4)) (.int .u8 a4):=.val _
 obtain⟨u,hu⟩:=zza hL
 clear hA0 hval0
 refine(hlaw u most ss ms ps1 a2 a3 a4 q1 (u8_range w2).1 (u8_range w2).2 (u8_range w3).1 (u8_range w3).2 (u8_range w4).1 (u8_range w4).2).run _ (zd0 W) W _ (λb hb=>zx7 hb) (λb o hb ho=>?_) hu ?_ λv w' hkeep hsize hos hout hv=>?_
 .obtain⟨c,t,f,e⟩:=hb;rw [e] at ho;obtain rfl:=kaw ho
  trivial
 .exact(((((rNil).cons r4).cons r3).cons r2).cons r1).cons r0
 .obtain⟨_,hv⟩:=hv;obtain rfl:=hv.val_eq
  have hbel:Below W.heap.size W { w' with os:=W.os,tape:=W.tape }:=⟨rfl,rfl,hout,hsize,hkeep⟩
  exact⟨⟨_,_,_,[],_,[],hW',trodAll_mk1 (shut_bool z7g _),DataW.TrodAll.of_heap (w:={ w' with os:=W.os,tape:=W.tape }) og (yks (Below.trod laidOut0 ot (of_decide_eq_true ot) h0 hbel l0) (yks (Below.trod laidOut0 ot (of_decide_eq_true ot) h1 hbel l1) (yks (Below.trod laidOut0 ot (of_decide_eq_true ot) h2 hbel l2) (yks (Below.trod laidOut0 ot (of_decide_eq_true ot) h3 hbel l3) (trodAll_mk1 (Below.trod laidOut0 ot (of_decide_eq_true ot) h4 hbel l4)))))),rfl,kept_of (hbel.frame _),λh=>by cases h⟩,hos⟩
theorem kfN:Tryz.checked.prog.funcNamed Rows.salesRealRow.func=some 5:=by kernel_rfl
theorem kfJ:joinedFacts Tryz.checked.prog 5 Tryz.f5 Rows.salesRealSpec Rows.salesRealRow=true:=by kernel_rfl
theorem kfI:Tryz.f5.isInstance Tryz.checked.prog Rows.salesRealRow.origin Rows.salesRealRow.targs:=of_decide_eq_true ot
theorem kfP:Tryz.f5.isWrapper Tryz.checked.prog Rows.salesRealRow.wrapper Rows.salesRealRow.mainSum:=by unfold Func.isWrapper;first|(rw [if_pos (by decide +kernel)];kernel_rfl)|(rw [if_neg (by decide +kernel)];exact⟨rfl,rfl⟩)
theorem kfW:Rows.salesRealRow.wfByText (OpenSpec.ofChange Rows.salesRealSpec)=true:=by kernel_rfl
theorem kfM : Tryz.checked.prog.mainIs = some (true, "70ef2974074eff7df72597cfe596aa669f2c5316aaf6a4666853ff5ae3af5d6e".toList) := by kernel_rfl
theorem kfL:false=Tryz.checked.prog.looks []:=by kernel_rfl
theorem kfS:([25,68,5,5,5].all λu=>!Tryz.prog.wantsStandIn u)=true:=by kernel_rfl
theorem kfG:true=Rows.salesRealRow.goesBy Tryz.checked.prog:=by kernel_rfl
theorem yox(hlaw:∀u most ss ms ps1 a2 a3 a4,(∀x∈ps1,x<65536)->0<=a2->a2<256->0<=a3->a3<256->0<=a4->a4<256->Top (cx (zch u)) 5 [bk most ss ms,.sl 1 (ygx ps1),.val (.int .u8 a2),.val (.int .u8 a3),.val (.int .u8 a4)] (.val (.bool true))):Rows.SalesRealSaid :=
 OpenClaim.holds_of_wide_leaving_time 5 Tryz.f5 rfl rfl rfl rfl rfl rfl rfl ⟨rfl,rfl,rfl,rfl,rfl⟩ rfl rfl rfl rfl rfl kfN Tryz.func5 kfJ kfI kfP (λos started H enc _ F=>yaa hlaw os started H enc F)
theorem ybe(hlaw:∀u most ss ms ps1 a2 a3 a4,(∀x∈ps1,x<65536)->0<=a2->a2<256->0<=a3->a3<256->0<=a4->a4<256->Top (cx (zch u)) 5 [bk most ss ms,.sl 1 (ygx ps1),.val (.int .u8 a2),.val (.int .u8 a3),.val (.int .u8 a4)] (.val (.bool true))):Rows.SalesRealCardSaid :=
 zmn .later [.funcs, .funcs] true (true, "70ef2974074eff7df72597cfe596aa669f2c5316aaf6a4666853ff5ae3af5d6e") false (yox hlaw) kfW salesReal_row_tie rfl ⟨rfl, rfl⟩ kfM rfl
  (λf fn hf hfn=>by
    obtain rfl:f=5:=kaw (kfN.symm.trans hf) |>.symm;obtain rfl:fn=Tryz.f5:=(kaw (Tryz.func5.symm.trans hfn)).symm
    exact⟨kfL,λj t ht=>by
     rw [z0b] at ht;have hm:t∈[25,68,5,5,5]:=by simpa using kbl ht
     exact(show Tryz.prog.wantsStandIn t=false by simpa using kar.1 kfS t hm)⟩) kfG
end Go.Proofs.YtbnajhgbhbgjdaaGreatDoor
namespace Go.Proofs.YtbnajhgbhbgjdaaGreatDoor
open Go Go.Ab Go.Ab.J
theorem salesReal_holds:Rows.SalesRealCardSaid:=ybe λu most ss ms ps a2 a3 a4 hp h2 h3 h4 h5 h6 h7=>yq6 u summed_a most ss ms ps a2 a3 a4 hp h2 h3 h4 h5 h6 h7
end Go.Proofs.YtbnajhgbhbgjdaaGreatDoor
