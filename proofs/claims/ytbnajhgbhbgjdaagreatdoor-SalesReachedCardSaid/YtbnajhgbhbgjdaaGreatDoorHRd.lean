/- Pieces of a law about sales. Conditions: none. -/
import Derived.Test.YtbnajhgbhbgjdaaGreatDoorHRb
import Derived.LaidHandle
import Derived.LaidMore
import Derived.OpenShut
import Derived.Test.YtbnajhgbhbgjdaaGreatDoorCards
import Derived.Test.YtbnajhgbhbgjdaaGreatDoorRows
import Derived.Test.YtbnajhgbhbgjdaaGreatDoorTie
namespace Go.Kp
open Go
theorem yrb(out:List Int)(x:Int):(yo0 out x).length<=out.length+1:=by
 have:=(ymo out x out.length).1;unfold yo0;split
 .omega
 .simp;omega
theorem yqf(l:List Int):∀n,(ymw l n).length<=n
 | 0=>kac _
 | n+1=>by have:=yqf l n;have:=yrb (ymw l n) (l.getD n 0);unfold ymw;omega
end Go.Kp
namespace Go.Ab
open Go Go.RowKit Go.Kp
section
variable{C:Cx}{N:Nat}{s:AS}{d:Nat}{t ty e:TypeId}{pos:String}{af:Array Edge}{g:Option (Nat×Bool)}{x y z:Operand}{k k2:IntKind}{q r:Int}{n m wd:Nat}{rows:List (List AV)}{ti:TI}
theorem ysy{E:Env}{w:World}{v:Value}(h:Rep E w (.sl wd rows) v)(hn:n<=m)(hm:m<=rows.length):∃a c,v=.slice a rows.length c/\rows.length<=c/\Rep E w (.sl wd ((rows.take m).drop n)) (.slice (if c=n then a else a.map (·.add (n*wd))) (m-n) (c-n)):=by
 cases h with
 | nil =>
   simp at hm;subst hm;obtain rfl:n=0:=oc
   exact⟨none,0,rfl,kac _,by simpa using Rep.nil wd⟩
 | sl _ _ b o c val hb hw hc h hl =>
   refine⟨some ⟨b,o,none⟩,c,rfl,hl,?_⟩;have hlen:((rows.take m).drop n).length=m-n:=by simp;omega
   have hget:∀(i:Nat) row,((rows.take m).drop n)[i]?=some row->rows[n+i]?=some row:=λi row hi=>by
    rw [kbb,ka5] at hi;split at hi
    .exact hi
    .cases hi
   by_cases hcn:c=n
   .have he:(rows.take m).drop n=[]:=kas oc;rw [if_pos hcn,he,show m-n=([]:List (List AV)).length by simp;omega];exact .sl wd [] b o (c-n) val hb (λ_ h=>by cases h) (λi row j x hr=>by simp at hr) (λi row j x hr=>by simp at hr) (kb6 _)
   .rw [if_neg hcn,<-hlen];simp only [kcc,Addr.add_at];refine .sl wd _ b (o+n*wd) (c-n) (λi j=>val (n+i) j) hb (λrow hr=>hw row (kbz (kby hr))) (λi row j x hr hx=>?_) (λi row j x hr hx=>h (n+i) row j x (hget i row hr) hx) oc;obtain⟨p1,p2,p3⟩:=hc (n+i) row j x (hget i row hr) hx;exact⟨p1,p2,by rw [show o+n*wd+i*wd+j=o+(n+i)*wd+j by rw [Nat.add_mul];omega];exact p3⟩
theorem ysx{P:Program}{w:World}{a:Option Addr}{len c size:Nat}{lo hi:Option Value}(hu:P.underlying t=some (.slice e))(hsz:(sizeOf e).run P w=.ok size w)(hb:(Instr.sliceBounds true len c lo hi none).run P w=.ok (n,m,c) w) :
  (Instr.sliceAt t (.slice a len c) lo hi none).run P w=.ok (.slice (if c=n then a else a.map (·.add (n*size))) (m-n) (c-n)) w:=by
 simp [Instr.sliceAt,Instr.slice,run_underlying hu,hsz,hb]
theorem ys7(lo hi:Option Operand)(hd:d<N)(hx:ev s x=some (.sl wd rows))(hu:(C.ti t).map (·.sh)=some (.sl e))(ht:C.ti e=some ti)(hs:Nat.beq ti.size wd=true)(hn:n<=m)(hm:m<=rows.length){R:List Nat}(hR0:∀r∈rds x,r∈R)
  (hb:∀(w0:zfq) (E:Env) (s':AS) (a:Act) (w:World) (c:Nat),(∀r∈R,zac s' r=zac s r)->Rel C.G N w0 s' a w E->rows.length<=c->(Instr.sliceBounds true rows.length c (lo.map a.eval) (hi.map a.eval) none).run C.P w=.ok (n,m,c) w) :
  AOp C N ⟨some d,.slice t x lo hi none,ty,pos,af,g⟩ R s [(2*d,.av (.sl wd ((rows.take m).drop n)))] :=
 zau hd λw0 E s' a w hR hr=>by
  have hx':=zat hR (λr h=>hR0 r h) hx;obtain⟨ad,c,h1,h2,h3⟩:=ysy (n:=n) (m:=m) (hr.ev hx') hn hm;cases htt:C.ti t with
  | none=>rw [htt] at hu;cases hu
  | some tj =>rw [htt] at hu;have hsz:=Cx.ti_size ht w;rw [kaj hs] at hsz;have hrun:=ysx (P:=C.P) (a:=ad) (Cx.under_sl htt (oa hu)) hsz (hb w0 E s' a w c hR hr h2);refine⟨_,?_,h3,by simp [AV.ids]⟩;simp only [execOp,Option.map_none,h1];rw [Sem.run_bind,hrun];rfl
theorem a_slL(hd:d<N)(hx:ev s x=some (.sl wd rows))(hy:ev s y=some (.val (.int k q)))(hu:(C.ti t).map (·.sh)=some (.sl e))(ht:C.ti e=some ti)(hs:Nat.beq ti.size wd=true)(hq:q=(n:Int))(hn:n<=rows.length) :
  AOp C N ⟨some d,.slice t x (some y) none none,ty,pos,af,g⟩ (rds x++rds y) s [(2*d,.av (.sl wd (rows.drop n)))]:=by
 have:=ys7 (C:=C) (N:=N) (ty:=ty) (pos:=pos) (af:=af) (g:=g) (n:=n) (m:=rows.length) (R:=rds x++rds y) (some y) none hd hx hu ht hs hn (kac _) (λr h=>by simp [h]) λw0 E s' a w c hR hr hc=>by
  have he2:=(hr.ev (zat hR (λ_ h=>by simp [h]) hy)).val_eq;have h1:(n:Int)<=(rows.length:Int):=oc
  simp [he2,hq,Instr.sliceBounds,Instr.sliceBound,asIntOf];omega
 rwa [kdl] at this
theorem a_slH(hd:d<N)(hx:ev s x=some (.sl wd rows))(hy:ev s y=some (.val (.int k q)))(hu:(C.ti t).map (·.sh)=some (.sl e))(ht:C.ti e=some ti)(hs:Nat.beq ti.size wd=true)(hq:q=(m:Int))(hm:m<=rows.length) :
  AOp C N ⟨some d,.slice t x none (some y) none,ty,pos,af,g⟩ (rds x++rds y) s [(2*d,.av (.sl wd (rows.take m)))]:=by
 have:=ys7 (C:=C) (N:=N) (ty:=ty) (pos:=pos) (af:=af) (g:=g) (n:=0) (m:=m) (R:=rds x++rds y) none (some y) hd hx hu ht hs (kb6 _) hm (λr h=>by simp [h]) λw0 E s' a w c hR hr hc=>by
  have he2:=(hr.ev (zat hR (λ_ h=>by simp [h]) hy)).val_eq;have h1:(m:Int)<=(c:Int):=oc
  simp [he2,hq,Instr.sliceBounds,Instr.sliceBound,asIntOf];omega
 rwa [List.drop_zero] at this
theorem ys3{R:List Nat}{l h m:Option Operand}(hx:ev s x=some (.sl wd rows))(hs:zly (rds x) R=true):AFt C ⟨some d,.slice t x l h m,ty,pos,af,g⟩ R s:=λN w0 E s' a w hR hr=>by have hv:=hr.ev (zat hR (λr h=>zkw hs h) hx);unfold execOp;refine zjc (zjt _ _ _ _ _ (λa he=>?_) λ_=>trivial);rw [he] at hv;cases hv
end
end Go.Ab
namespace Go.Proofs.YtbnajhgbhbgjdaaGreatDoor
open Go Go.Ab Go.ChangeShapes Go.WideShapes Go.ChangeAt Go.RowKit Go.Conc Go.ConcM Go.Ab.J
theorem z0b:Tryz.f3.params=#[25,5,5,5]:=by kernel_rfl
set_option maxRecDepth 100000 in
theorem yaa(hlaw:∀u most ss ms a1 a2 a3,0<=a1->a1<256->0<=a2->a2<256->0<=a3->a3<256->Top (cx (zch u)) 3 [bk most ss ms,.val (.int .u8 a1),.val (.int .u8 a2),.val (.int .u8 a3)] (.val (.bool true)))
  (os:Os) (started:os.Started) (H:Type) (enc:TypeId×Value->H) (F:Stop.Interp) :
  ReturnsInLeavingWide Rows.salesReachedRow.assume Tryz.checked os 3 .any (λw args=>(Rows.salesReachedSpec.pre enc Tryz.prog Tryz.f3 [] false w args/\laidMetH Tryz.prog Rows.salesReachedRow.laid w)/\sizedMet enc Tryz.prog Tryz.f3 (OpenSpec.ofChange Rows.salesReachedSpec) false w args)
   ((OpenSpec.ofChange Rows.salesReachedSpec).postWith enc Tryz.prog Tryz.f3 F (outsideKept [.timePasses]) false true false):=by
 refine zt2 (C:=Tryz.checked) (X:=λw _=>laidMetH Tryz.prog Rows.salesReachedRow.laid w) (λ_ _ _ hh h=>h.of_heap hh.symm) own0 started Tryz.func3
  (zqz (C:=Tryz.checked) (enc:=enc) (os:=os) (X:=λw _=>laidMetH Tryz.prog Rows.salesReachedRow.laid w) (World.doorLaid Tryz.prog 30 os) #[.agg #[.int .i64 0,.slice none 0 0,.slice none 0 0],.int .u8 0,.int .u8 0,.int .u8 0] 8 rfl (World.shaped_of_RefB ot ot) ot ot ot (door_met os _)) ?_
 intro W base args ds gs before hval0 hW hL _
 have hval:∀(j:Nat) t v,Tryz.f3.params[j]?=some t->args[j]?=some v->Value.okWide Tryz.prog W .any base t v:=hval0
 have hW':=hW
 obtain⟨p,q,hA0,hV,rfl,_,_⟩:=hW
 have hA:DataW.TrodAll enc Tryz.prog W 0 (λ_=>true) true Tryz.f3.params.toList args.toList ds p:=hA0
 rw [z0b] at hA hval
 obtain⟨v0,v1,v2,v3,d0,d1,d2,d3,p0,p1,p2,p3,rfl,rfl,rfl,h0,h1,h2,h3⟩:=trodAll_four hA
 obtain⟨rfl,rfl⟩:=trodVars_none hV
 have l0:∀x∈p0,x.block<W.heap.size:=λx hx=>by simpa using hW'.lt x (by simp [hx])
 have l1:∀x∈p1,x.block<W.heap.size:=λx hx=>by simpa using hW'.lt x (by simp [hx])
 have l2:∀x∈p2,x.block<W.heap.size:=λx hx=>by simpa using hW'.lt x (by simp [hx])
 have l3:∀x∈p3,x.block<W.heap.size:=λx hx=>by simpa using hW'.lt x (by simp [hx])
 obtain⟨most,ss,ms,r0⟩:=z2o (hval 0 25 v0 rfl rfl) h0
 obtain⟨a1,rfl,_,_,w1⟩:=open_int u_u8 (hval 1 5 v1 rfl rfl) h1
 have r1:Rep (zca (zd0 W)) W (.val (.int .u8 a1)) (.int .u8 a1):=.val _
 obtain⟨a2,rfl,_,_,w2⟩:=open_int u_u8 (hval 2 5 v2 rfl rfl) h2
 have r2:Rep (zca (zd0 W)) W (.val (.int .u8 a2)) (.int .u8 a2):=.val _
 obtain⟨a3,rfl,_,_,w3⟩:=open_int u_u8 (hval 3 5 v3 rfl rfl) h3
 have r3:Rep (zca (zd0 W)) W (.val (.int .u8 a3)) (.int .u8 a3):=.val _
 obtain⟨u,hu⟩:=zza hL
 clear hA0 hval0
 refine(hlaw u most ss ms a1 a2 a3 (u8_range w1).1 (u8_range w1).2 (u8_range w2).1 (u8_range w2).2 (u8_range w3).1 (u8_range w3).2).run _ (zd0 W) W _ (λb hb=>zx7 hb) (λb o hb ho=>?_) hu ?_ λv w' hkeep hsize hos hout hv=>?_
 .obtain⟨c,t,f,e⟩:=hb;rw [e] at ho;obtain rfl:=kaw ho
  trivial
 .exact((((rNil).cons r3).cons r2).cons r1).cons r0
 .obtain⟨_,hv⟩:=hv;obtain rfl:=hv.val_eq
  have hbel:Below W.heap.size W { w' with os:=W.os,tape:=W.tape }:=⟨rfl,rfl,hout,hsize,hkeep⟩
  exact⟨⟨_,_,_,[],_,[],hW',trodAll_mk1 (shut_bool z7g _),DataW.TrodAll.of_heap (w:={ w' with os:=W.os,tape:=W.tape }) og (trodAll_mk4 (Below.trod laidOut0 ot (of_decide_eq_true ot) h0 hbel l0) (Below.trod laidOut0 ot (of_decide_eq_true ot) h1 hbel l1) (Below.trod laidOut0 ot (of_decide_eq_true ot) h2 hbel l2) (Below.trod laidOut0 ot (of_decide_eq_true ot) h3 hbel l3)),rfl,kept_of (hbel.frame _),λh=>by cases h⟩,hos⟩
theorem kfN:Tryz.checked.prog.funcNamed Rows.salesReachedRow.func=some 3:=by kernel_rfl
theorem kfJ:joinedFacts Tryz.checked.prog 3 Tryz.f3 Rows.salesReachedSpec Rows.salesReachedRow=true:=by kernel_rfl
theorem kfI:Tryz.f3.isInstance Tryz.checked.prog Rows.salesReachedRow.origin Rows.salesReachedRow.targs:=of_decide_eq_true ot
theorem kfP:Tryz.f3.isWrapper Tryz.checked.prog Rows.salesReachedRow.wrapper Rows.salesReachedRow.mainSum:=by unfold Func.isWrapper;first|(rw [if_pos (by decide +kernel)];kernel_rfl)|(rw [if_neg (by decide +kernel)];exact⟨rfl,rfl⟩)
theorem kfW:Rows.salesReachedRow.wfByText (OpenSpec.ofChange Rows.salesReachedSpec)=true:=by kernel_rfl
theorem kfM : Tryz.checked.prog.mainIs = some (true, "70ef2974074eff7df72597cfe596aa669f2c5316aaf6a4666853ff5ae3af5d6e".toList) := by kernel_rfl
theorem kfL:false=Tryz.checked.prog.looks []:=by kernel_rfl
theorem kfS:([25,5,5,5].all λu=>!Tryz.prog.wantsStandIn u)=true:=by kernel_rfl
theorem kfG:true=Rows.salesReachedRow.goesBy Tryz.checked.prog:=by kernel_rfl
theorem yox(hlaw:∀u most ss ms a1 a2 a3,0<=a1->a1<256->0<=a2->a2<256->0<=a3->a3<256->Top (cx (zch u)) 3 [bk most ss ms,.val (.int .u8 a1),.val (.int .u8 a2),.val (.int .u8 a3)] (.val (.bool true))):Rows.SalesReachedSaid :=
 OpenClaim.holds_of_wide_leaving_time 3 Tryz.f3 rfl rfl rfl rfl rfl rfl rfl ⟨rfl,rfl,rfl,rfl,rfl⟩ rfl rfl rfl rfl rfl kfN Tryz.func3 kfJ kfI kfP (λos started H enc _ F=>yaa hlaw os started H enc F)
theorem ybe(hlaw:∀u most ss ms a1 a2 a3,0<=a1->a1<256->0<=a2->a2<256->0<=a3->a3<256->Top (cx (zch u)) 3 [bk most ss ms,.val (.int .u8 a1),.val (.int .u8 a2),.val (.int .u8 a3)] (.val (.bool true))):Rows.SalesReachedCardSaid :=
 zmn .later [.funcs, .funcs] true (true, "70ef2974074eff7df72597cfe596aa669f2c5316aaf6a4666853ff5ae3af5d6e") false (yox hlaw) kfW salesReached_row_tie rfl ⟨rfl, rfl⟩ kfM rfl
  (λf fn hf hfn=>by
    obtain rfl:f=3:=kaw (kfN.symm.trans hf) |>.symm;obtain rfl:fn=Tryz.f3:=(kaw (Tryz.func3.symm.trans hfn)).symm
    exact⟨kfL,λj t ht=>by
     rw [z0b] at ht;have hm:t∈[25,5,5,5]:=by simpa using kbl ht
     exact(show Tryz.prog.wantsStandIn t=false by simpa using kar.1 kfS t hm)⟩) kfG
end Go.Proofs.YtbnajhgbhbgjdaaGreatDoor
