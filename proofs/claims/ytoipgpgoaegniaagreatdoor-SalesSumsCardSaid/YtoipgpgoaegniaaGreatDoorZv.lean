/- For every book, kind, number and index the function SalesSums answers true, whatever other goroutines do, and leaves its arguments as they were. Conditions: those of the given row. -/
import Derived.Test.YtoipgpgoaegniaaGreatDoorZu
import Derived.Conc.HoldsTime
import Derived.ProofKit
import Derived.Test.YtoipgpgoaegniaaGreatDoorCards
import Derived.Test.YtoipgpgoaegniaaGreatDoorTie
namespace Go.Proofs.YtoipgpgoaegniaaGreatDoor
open Go Go.Ab Go.ChangeShapes Go.WideShapes Go.ChangeAt Go.RowKit Go.Conc Go.ConcM Go.Ab.J
theorem zt2{H:Type}{enc:TypeId×Value→H}{a:Assume}{C:Checked}{os:Os}{f:FuncId}{fn:Func}{s:ChangeSpec}{F:Stop.Interp}{conds:List PathCond}{apart fresh handsOn:Bool}{X:World→Array Value→Prop}
  (hX:∀w w' args,w'.heap=w.heap→X w args→X w' args) (own:ownKnob C.prog.godebug=none) (started:os.Started) (hfn:C.prog.funcs[f]?=some fn)
  (witness:∃(w:World) (tape:Tape) (i:Input),w.os=os∧(w.forCall tape i).Shaped C.prog∧i.vars=[]∧Input.okWide C.prog (w.forCall tape i) .any w.heap.size f i∧
    ((s.pre enc C.prog fn conds apart (w.forCall tape i).memory i.args∧X (w.forCall tape i).memory i.args)∧sizedMet enc C.prog fn (OpenSpec.ofChange s) apart (w.forCall tape i).memory i.args)∧a.holds C.prog (lone (Frame.enter C.prog f i.args .normal) [] (w.forCall tape i)))
  (runs:∀(W:World) (base:Nat) (args:Array Value) (ds gs:List (DataW H)) (before:List MemPlace),
    (∀(j:Nat) t v,fn.params[j]?=some t→args[j]?=some v→Value.okWide C.prog W .any base t v)→
    DataW.Whole enc C.prog fn.params.toList s.vars apart W args.toList ds gs before→X W args→
    ∃M last o w' t',runNT C.prog (M+1) (solo (G (Frame.enter C.prog f args .normal) []) W) #[]=(.ended o w',t')∧runN C.prog M (solo (G (Frame.enter C.prog f args .normal) []) W)=.next last∧
     step C.prog last=.ended o w'∧Conc.Good C.prog (fun v W'=>s.post enc C.prog fn apart fresh handsOn false W args v { W' with os:=W.os }∧OsLater W.os W'.os) last o w' t') :
  ReturnsInLeavingWide a C os f .any (fun w args=>(s.pre enc C.prog fn conds apart w args∧X w args)∧sizedMet enc C.prog fn (OpenSpec.ofChange s) apart w args) ((OpenSpec.ofChange s).postWith enc C.prog fn F (outsideKept [.timePasses]) apart fresh handsOn):=by
 refine returnsInLeavingWide_of_good own started witness ?_
 intro w tape i _ _ _ hok hpre hholds
 obtain⟨_,_,_,fn',hfn',_,_,_,_,hval⟩:=hok
 have e:fn'=fn:=kaw (hfn'.symm.trans hfn)
 subst e
 obtain⟨⟨⟨ds,gs,before,hw,hc⟩,hx⟩,hz⟩:=hpre
 have hw':=DataW.Whole.of_heap (w':=w.forCall tape i) (by rfl) hw
 obtain⟨M,last,o,w',t',h1,h2,h3,h4⟩:=runs (w.forCall tape i) w.heap.size i.args ds gs before hval hw' (hX _ _ _ (by rfl) hx)
 obtain⟨v,e,hp,r1,r2,r3,r4⟩:=h4
 exact⟨M,last,o,w',t',h1,h2,h3,v,e,postWith_blind (postWith_of_post hp.1 hp.2),r1,r2,r3,r4⟩
theorem zqz{H:Type}{enc:TypeId×Value→H}{C:Checked}{os:Os}{f:FuncId}{fn:Func}{s:ChangeSpec}{conds:List PathCond}{apart:Bool}{X:World→Array Value→Prop}(w0:World)(args:Array Value)(fuel:Nat)(hos:w0.os=os)
  (hsh:(w0.forCall (fun _ _=>0) ⟨#[],args,[]⟩).Shaped C.prog)
  (hok:Input.okWideB C.prog (w0.forCall (fun _ _=>0) ⟨#[],args,[]⟩) f ⟨#[],args,[]⟩=true)
  (hpre:s.preB enc C.prog fn conds apart (w0.forCall (fun _ _=>0) ⟨#[],args,[]⟩).memory args fuel=true)
  (hsz:s.sizedB enc C.prog fn apart (w0.forCall (fun _ _=>0) ⟨#[],args,[]⟩).memory args fuel=true)
  (hx:X (w0.forCall (fun _ _=>0) ⟨#[],args,[]⟩).memory args) :
  ∃(w:World) (tape:Tape) (i:Input),w.os=os∧(w.forCall tape i).Shaped C.prog∧i.vars=[]∧Input.okWide C.prog (w.forCall tape i) .any w.heap.size f i∧
   ((s.pre enc C.prog fn conds apart (w.forCall tape i).memory i.args∧X (w.forCall tape i).memory i.args)∧sizedMet enc C.prog fn (OpenSpec.ofChange s) apart (w.forCall tape i).memory i.args)∧({ calm:=true }:Assume).holds C.prog (lone (Frame.enter C.prog f i.args .normal) [] (w.forCall tape i)) :=
 ⟨w0,fun _ _=>0,⟨#[],args,[]⟩,hos,hsh,(Input.okWide_of_okWideB (base:=0) hok).1,(Input.okWide_of_okWideB hok).2,⟨⟨ChangeSpec.pre_of_preB hpre,hx⟩,sizedMet_of_sizedB hsz⟩,by
   simp only [Assume.holds];exact⟨by simp,fun _ _ _ _=>rfl,by simp,by simp,by simp⟩⟩
theorem zmn(Lk:Looks){p:Pinned}{s:OpenSpec}{c:OpenClaim}(kinds:List LaidKind)(tests:Bool)(har:Bool×String)(lk:Bool)
  (hc:c.holds p s) (hw:c.wfByText s=true) (htie:c.laidByTextAt Lk p kinds tests)
  (hst:c.start=.entering) (hnb:c.noBlocks=false∧c.again=false) (hm:p.checked.prog.mainIs=some (har.1,har.2.toList)) (hn:(!har.1&&har.2.isEmpty&&!lk)=false)
  (hl:∀f fn,p.checked.prog.funcNamed c.func=some f→p.checked.prog.funcs[f]?=some fn→lk=p.checked.prog.looks []∧∀(j:Nat) t,fn.params[j]?=some t→p.checked.prog.wantsStandIn t=false)
  (hg:true=c.goesBy p.checked.prog) :
  Claim7.holds p (.plain s) { stood:={ row:=c,standIns:=[],harness:=har,looks:=lk },kinds:=[],alts:=[],goes:=true,laidByText:=true,laidKinds:=kinds,laidTests:=tests,laidLooks:=Lk }:=by
 have h6:∀r:OpenClaim,Claim7.isSixth { stood:={ row:=r,standIns:=[],harness:=har,looks:=lk },kinds:=[] }=false:=fun r=>by simpa [Claim7.isSixth] using hn
 exact⟨Claim7.tied_new_at Lk kinds tests (Claim7.new_of_sixth hc har lk hst hnb hm (h6 c) hl) hw,(fun D hD=>by cases hD),htie,(fun h=>by cases h),hg⟩
theorem own0:ownKnob Tryz.prog.godebug=none:=by kernel_rfl
theorem z5c:laidOutB Tryz.prog=true:=by kernel_rfl
theorem z0b:Tryz.f3.params=#[25,26,3,3]:=by kernel_rfl
theorem z6b(os:Os)(args:Array Value):laidMetH Tryz.prog Rows.salesSumsRow.laid ((World.doorLaid Tryz.prog 30 os).forCall (fun _ _=>0) ⟨#[],args,[]⟩).memory :=
 laidMetH_of_parts3 (fuel:=8) (laidMet_of_run' 8 (by kernel_rfl) (by kernel_rfl)) (by kernel_rfl) (by kernel_rfl)
theorem yad{W w':World}{may:MemPlace→Prop}(h:W.keptBut { w' with os:=W.os,tape:=W.tape } may):W.keptBut { w' with os:=W.os } may:=⟨h.1,h.2.1,fun i hi=>h.2.2 i hi⟩
set_option maxRecDepth 100000 in
theorem yaa(hlaw:∀u most ss ms k a sum,Top (cx (zch u)) 3 [bk most ss ms,.val (.int .i64 k),.val (.int .i64 a),.val (.int .i64 sum)] (.val (.bool true)))
  (os:Os) (started:os.Started) (H:Type) (enc:TypeId×Value→H) (F:Stop.Interp) :
  ReturnsInLeavingWide Rows.salesSumsRow.assume Tryz.checked os 3 .any (fun w args=>(Rows.salesSumsSpec.pre enc Tryz.prog Tryz.f3 [] false w args∧laidMetH Tryz.prog Rows.salesSumsRow.laid w)∧sizedMet enc Tryz.prog Tryz.f3 (OpenSpec.ofChange Rows.salesSumsSpec) false w args)
   ((OpenSpec.ofChange Rows.salesSumsSpec).postWith enc Tryz.prog Tryz.f3 F (outsideKept [.timePasses]) false true false):=by
 refine zt2 (C:=Tryz.checked) (X:=fun w _=>laidMetH Tryz.prog Rows.salesSumsRow.laid w) (fun _ _ _ hh h=>h.of_heap hh.symm) own0 started Tryz.func3
  (zqz (C:=Tryz.checked) (enc:=enc) (os:=os) (X:=fun w _=>laidMetH Tryz.prog Rows.salesSumsRow.laid w) (World.doorLaid Tryz.prog 30 os) #[.agg #[.int .i64 0,.slice none 0 0,.slice none 0 0],.int .i64 0,.int .i64 0,.int .i64 0] 8 rfl (World.shaped_of_RefB (by kernel_rfl) (by kernel_rfl)) (by kernel_rfl) (by kernel_rfl) (by kernel_rfl) (z6b os _)) ?_
 intro W base args ds gs before hval0 hW hL
 have hval:∀(j:Nat) t v,Tryz.f3.params[j]?=some t→args[j]?=some v→Value.okWide Tryz.prog W .any base t v:=hval0
 have hW':=hW
 obtain⟨p,q,hA0,hV,rfl,_,_⟩:=hW
 have hA:DataW.TrodAll enc Tryz.prog W 0 (fun _=>true) true Tryz.f3.params.toList args.toList ds p:=hA0
 rw [z0b] at hA hval
 obtain⟨v0,v1,v2,v3,d0,d1,d2,d3,p0,p1,p2,p3,rfl,rfl,rfl,h0,h1,h2,h3⟩:=trodAll_four hA
 obtain⟨rfl,rfl⟩:=trodVars_none hV
 obtain⟨most,ss,ms,hb⟩:=z2o (hval 0 25 v0 rfl rfl) h0
 obtain⟨k,rfl,rfl,rfl,wk⟩:=open_int u_sk (hval 1 26 v1 rfl rfl) h1
 obtain⟨a,rfl,rfl,rfl,wa⟩:=open_int zjd (hval 2 3 v2 rfl rfl) h2
 obtain⟨m,rfl,rfl,rfl,wm⟩:=open_int zjd (hval 3 3 v3 rfl rfl) h3
 obtain⟨u,hu⟩:=zza hL
 clear hA0 hval0
 simp only [kda] at hW'
 have hlt:∀x∈p0,x.block<W.heap.size:=fun x hx=>by simpa using hW'.lt x (by simpa using hx)
 refine(hlaw u most ss ms k a m).run _ (zd0 W) W [v0,.int .i64 k,.int .i64 a,.int .i64 m] (fun b hb=>zx7 hb) (fun b o hb ho=>?_) hu ?_ fun v w' hkeep hsize hos hout hv=>?_
 ·obtain⟨c,t,f,e⟩:=hb;rw [e] at ho;obtain rfl:=kaw ho
  trivial
 ·exact(((Go.Ab.RepL.nil _ _).cons (.val _)).cons (.val _)).cons (.val _) |>.cons hb
 ·obtain⟨_,hv⟩:=hv;obtain rfl:=hv.val_eq
  have hbel:Below W.heap.size W { w' with os:=W.os,tape:=W.tape }:=⟨rfl,rfl,hout,hsize,hkeep⟩
  exact⟨⟨_,_,_,[],_,[],hW',trodAll_mk1 (shut_bool z7g _),DataW.TrodAll.of_heap (w:={ w' with os:=W.os,tape:=W.tape }) (by rfl) (trodAll_mk4 (Below.trod z5c (by kernel_rfl) (of_decide_eq_true (by kernel_rfl)) h0 hbel hlt) (shut_int u_sk wk) (shut_int zjd wa) (shut_int zjd wm)),rfl,yad (hbel.frame _),fun h=>by cases h⟩,hos⟩
theorem ybe(hlaw:∀u most ss ms k a sum,Top (cx (zch u)) 3 [bk most ss ms,.val (.int .i64 k),.val (.int .i64 a),.val (.int .i64 sum)] (.val (.bool true))):Rows.SalesSumsCardSaid:=by
 have hrow:Rows.SalesSumsSaid:=OpenClaim.holds_of_wide_leaving_time 3 Tryz.f3 rfl rfl rfl rfl rfl rfl rfl ⟨rfl,rfl,rfl,rfl,rfl⟩ rfl rfl rfl rfl rfl (by kernel_rfl) Tryz.func3 (by kernel_rfl)
  (of_decide_eq_true (by kernel_rfl)) (by unfold Func.isWrapper;first|(rw [if_pos (by decide +kernel)];kernel_rfl)|(rw [if_neg (by decide +kernel)];exact⟨rfl,rfl⟩))
  (fun os started H enc _ F=>yaa hlaw os started H enc F)
 exact zmn .later [.funcs, .funcs] true (true, "0bc751deae2e68b7726d3556527c6a316999567e1eab169c43c189123b37cfa5") false hrow (by kernel_rfl) salesSums_row_tie rfl ⟨rfl, rfl⟩ (by kernel_rfl) rfl
  (fun f fn hf hfn=>by
    obtain rfl : f = 3 := kaw ((show Tryz.prog.funcNamed "nosale/nosalelaw06.SalesSums" = some 3 by kernel_rfl).symm.trans hf) |>.symm;obtain rfl:fn=Tryz.f3:=(kaw (Tryz.func3.symm.trans hfn)).symm
    exact⟨by kernel_rfl,fun j t ht=>by
     rw [z0b] at ht;have hm:t∈[25,26,3,3]:=by simpa using kbl ht
     have hall:([25,26,3,3].all fun u=>!Tryz.prog.wantsStandIn u)=true:=by kernel_rfl
     exact(show Tryz.prog.wantsStandIn t=false by simpa using kar.1 hall t hm)⟩)
  (by kernel_rfl)
end Go.Proofs.YtoipgpgoaegniaaGreatDoor
