/- Pieces of a law about sales. Conditions: none. -/
import Derived.Test.YtfgciihkmemdlaaGreatDoorHPe
namespace Go.Kp
open Go
theorem yrb(out:List Int)(x:Int):(yo0 out x).length<=out.length+1:=by
 have:=(ymo out x out.length).1;unfold yo0;split
 .omega
 .simp;omega
theorem yqf(l:List Int):∀n,(ymw l n).length<=n
 | 0=>kac _
 | n+1=>by have:=yqf l n;have:=yrb (ymw l n) (l.getD n 0);unfold ymw;omega
end Go.Kp
namespace Go.Ab
open Go Go.RowKit Go.Kp
section
variable{C:Cx}{N:Nat}{s:AS}{d:Nat}{t ty e:TypeId}{pos:String}{af:Array Edge}{g:Option (Nat×Bool)}{x y z:Operand}{k k2:IntKind}{q r:Int}{n m wd:Nat}{rows:List (List AV)}{ti:TI}
theorem ysy{E:Env}{w:World}{v:Value}(h:Rep E w (.sl wd rows) v)(hn:n<=m)(hm:m<=rows.length):∃a c,v=.slice a rows.length c/\rows.length<=c/\Rep E w (.sl wd ((rows.take m).drop n)) (.slice (if c=n then a else a.map (·.add (n*wd))) (m-n) (c-n)):=by
 cases h with
 | nil =>
   simp at hm;subst hm;obtain rfl:n=0:=oc
   exact⟨none,0,rfl,kac _,by simpa using Rep.nil wd⟩
 | sl _ _ b o c val hb hw hc h hl =>
   refine⟨some ⟨b,o,none⟩,c,rfl,hl,?_⟩;have hlen:((rows.take m).drop n).length=m-n:=by simp;omega
   have hget:∀(i:Nat) row,((rows.take m).drop n)[i]?=some row->rows[n+i]?=some row:=λi row hi=>by
    rw [kbb,ka5] at hi;split at hi
    .exact hi
    .cases hi
   by_cases hcn:c=n
   .have he:(rows.take m).drop n=[]:=kas oc;rw [if_pos hcn,he,show m-n=([]:List (List AV)).length by simp;omega];exact .sl wd [] b o (c-n) val hb (λ_ h=>by cases h) (λi row j x hr=>by simp at hr) (λi row j x hr=>by simp at hr) (kb6 _)
   .rw [if_neg hcn,<-hlen];simp only [kcc,Addr.add_at];refine .sl wd _ b (o+n*wd) (c-n) (λi j=>val (n+i) j) hb (λrow hr=>hw row (kbz (kby hr))) (λi row j x hr hx=>?_) (λi row j x hr hx=>h (n+i) row j x (hget i row hr) hx) oc;obtain⟨p1,p2,p3⟩:=hc (n+i) row j x (hget i row hr) hx;exact⟨p1,p2,by rw [show o+n*wd+i*wd+j=o+(n+i)*wd+j by rw [Nat.add_mul];omega];exact p3⟩
theorem ysx{P:Program}{w:World}{a:Option Addr}{len c size:Nat}{lo hi:Option Value}(hu:P.underlying t=some (.slice e))(hsz:(sizeOf e).run P w=.ok size w)(hb:(Instr.sliceBounds true len c lo hi none).run P w=.ok (n,m,c) w) :
  (Instr.sliceAt t (.slice a len c) lo hi none).run P w=.ok (.slice (if c=n then a else a.map (·.add (n*size))) (m-n) (c-n)) w:=by
 simp [Instr.sliceAt,Instr.slice,run_underlying hu,hsz,hb]
theorem ys7(lo hi:Option Operand)(hd:d<N)(hx:ev s x=some (.sl wd rows))(hu:(C.ti t).map (·.sh)=some (.sl e))(ht:C.ti e=some ti)(hs:Nat.beq ti.size wd=true)(hn:n<=m)(hm:m<=rows.length){R:List Nat}(hR0:∀r∈rds x,r∈R)
  (hb:∀(w0:zfq) (E:Env) (s':AS) (a:Act) (w:World) (c:Nat),(∀r∈R,zac s' r=zac s r)->Rel C.G N w0 s' a w E->rows.length<=c->(Instr.sliceBounds true rows.length c (lo.map a.eval) (hi.map a.eval) none).run C.P w=.ok (n,m,c) w) :
  AOp C N ⟨some d,.slice t x lo hi none,ty,pos,af,g⟩ R s [(2*d,.av (.sl wd ((rows.take m).drop n)))] :=
 zau hd λw0 E s' a w hR hr=>by
  have hx':=zat hR (λr h=>hR0 r h) hx;obtain⟨ad,c,h1,h2,h3⟩:=ysy (n:=n) (m:=m) (hr.ev hx') hn hm;cases htt:C.ti t with
  | none=>rw [htt] at hu;cases hu
  | some tj =>rw [htt] at hu;have hsz:=Cx.ti_size ht w;rw [kaj hs] at hsz;have hrun:=ysx (P:=C.P) (a:=ad) (Cx.under_sl htt (oa hu)) hsz (hb w0 E s' a w c hR hr h2);refine⟨_,?_,h3,by simp [AV.ids]⟩;simp only [execOp,Option.map_none,h1];rw [Sem.run_bind,hrun];rfl
theorem a_slL(hd:d<N)(hx:ev s x=some (.sl wd rows))(hy:ev s y=some (.val (.int k q)))(hu:(C.ti t).map (·.sh)=some (.sl e))(ht:C.ti e=some ti)(hs:Nat.beq ti.size wd=true)(hq:q=(n:Int))(hn:n<=rows.length) :
  AOp C N ⟨some d,.slice t x (some y) none none,ty,pos,af,g⟩ (rds x++rds y) s [(2*d,.av (.sl wd (rows.drop n)))]:=by
 have:=ys7 (C:=C) (N:=N) (ty:=ty) (pos:=pos) (af:=af) (g:=g) (n:=n) (m:=rows.length) (R:=rds x++rds y) (some y) none hd hx hu ht hs hn (kac _) (λr h=>by simp [h]) λw0 E s' a w c hR hr hc=>by
  have he2:=(hr.ev (zat hR (λ_ h=>by simp [h]) hy)).val_eq;have h1:(n:Int)<=(rows.length:Int):=oc
  simp [he2,hq,Instr.sliceBounds,Instr.sliceBound,asIntOf];omega
 rwa [kdl] at this
theorem a_slH(hd:d<N)(hx:ev s x=some (.sl wd rows))(hy:ev s y=some (.val (.int k q)))(hu:(C.ti t).map (·.sh)=some (.sl e))(ht:C.ti e=some ti)(hs:Nat.beq ti.size wd=true)(hq:q=(m:Int))(hm:m<=rows.length) :
  AOp C N ⟨some d,.slice t x none (some y) none,ty,pos,af,g⟩ (rds x++rds y) s [(2*d,.av (.sl wd (rows.take m)))]:=by
 have:=ys7 (C:=C) (N:=N) (ty:=ty) (pos:=pos) (af:=af) (g:=g) (n:=0) (m:=m) (R:=rds x++rds y) none (some y) hd hx hu ht hs (kb6 _) hm (λr h=>by simp [h]) λw0 E s' a w c hR hr hc=>by
  have he2:=(hr.ev (zat hR (λ_ h=>by simp [h]) hy)).val_eq;have h1:(m:Int)<=(c:Int):=oc
  simp [he2,hq,Instr.sliceBounds,Instr.sliceBound,asIntOf];omega
 rwa [List.drop_zero] at this
theorem ys3{R:List Nat}{l h m:Option Operand}(hx:ev s x=some (.sl wd rows))(hs:zly (rds x) R=true):AFt C ⟨some d,.slice t x l h m,ty,pos,af,g⟩ R s:=λN w0 E s' a w hR hr=>by have hv:=hr.ev (zat hR (λr h=>zkw hs h) hx);unfold execOp;refine zjc (zjt _ _ _ _ _ (λa he=>?_) λ_=>trivial);rw [he] at hv;cases hv
end
end Go.Ab
namespace Go.Ab.J
open Go Go.Proofs Go.Kp Go.ChangeShapes Go.WideShapes Go.ChangeAt Go.RowKit
theorem ycz:Tryz.prog.underlying 38=some (.slice 3):=by kernel_rfl
theorem yt7:Tryz.prog.underlying 59=some (.slice 4):=by kernel_rfl
def intV(n:Int):List Value:=[.int .i64 n]
def yu0(b:Bool):List Value:=[.bool b]
section
variable{H:Type}{enc:TypeId×Value->H}{w:World}{sp:Nat->Bool}{held:Bool}{base:Nat}{v:Value}{d:DataW H}{p:List MemPlace}
set_option maxRecDepth 20000 in
theorem yut(hok:Value.okWide Tryz.prog w .any base 38 v)(h:DataW.Trod enc Tryz.prog w 0 sp held 38 v d p):∃l:List Int,Rep (zca (zd0 w)) w (.sl 1 (il l)) v:=by
 have hv:=okWide_slice ycz hok;unfold Value.okWide at hok;rw [ycz] at hok;obtain⟨a,len,cap,rfl⟩:=hv;obtain⟨fuel,h⟩:=h;obtain⟨l,r1⟩:=zrh (wd:=1) (λn=>(intV n).map .val) intV (λ_=>rfl) (λ_=>rfl) (λs v hv=>by simp [intV] at hv;subst hv;rfl) ycz hok
  (zry intV zqh (λn cs x hx=>by
    obtain⟨k,h1,_,_⟩:=DataW.trod_int zjd hx;exact⟨k,h1⟩) ycz h)
 exact⟨l,r1⟩
set_option maxRecDepth 20000 in
theorem yum(hok:Value.okWide Tryz.prog w .any base 59 v)(h:DataW.Trod enc Tryz.prog w 0 sp held 59 v d p):∃l:List Bool,Rep (zca (zd0 w)) w (.sl 1 (bl l)) v:=by
 have hv:=okWide_slice yt7 hok;unfold Value.okWide at hok;rw [yt7] at hok;obtain⟨a,len,cap,rfl⟩:=hv;obtain⟨fuel,h⟩:=h;obtain⟨l,r1⟩:=zrh (wd:=1) (λn=>(yu0 n).map .val) yu0 (λ_=>rfl) (λ_=>rfl) (λs v hv=>by simp [yu0] at hv;subst hv;rfl) yt7 hok
  (zry yu0 yen (λn cs x hx=>by
    obtain⟨k,h1,_⟩:=DataW.trod_bool z7g hx;exact⟨k,h1⟩) yt7 h)
 exact⟨l,r1⟩
end
end Go.Ab.J
namespace Go.Proofs.YtfgciihkmemdlaaGreatDoor
open Go Go.Ab Go.ChangeShapes Go.WideShapes Go.ChangeAt Go.RowKit Go.Conc Go.ConcM Go.Ab.J
theorem z0b:Tryz.f5.params=#[25,38,59,3]:=by kernel_rfl
set_option maxRecDepth 100000 in
theorem yaa(hlaw:∀u most ss ms ps1 ps2 a3,Top (cx (zch u)) 5 [bk most ss ms,.sl 1 (il ps1),.sl 1 (bl ps2),.val (.int .i64 a3)] (.val (.bool true)))
  (os:Os) (started:os.Started) (H:Type) (enc:TypeId×Value->H) (F:Stop.Interp) :
  ReturnsInLeavingWide Rows.salesSlipsRow.assume Tryz.checked os 5 .any (λw args=>(Rows.salesSlipsSpec.pre enc Tryz.prog Tryz.f5 [] false w args/\laidMetH Tryz.prog Rows.salesSlipsRow.laid w)/\sizedMet enc Tryz.prog Tryz.f5 (OpenSpec.ofChange Rows.salesSlipsSpec) false w args)
   ((OpenSpec.ofChange Rows.salesSlipsSpec).postWith enc Tryz.prog Tryz.f5 F (outsideKept [.timePasses]) false true false):=by
 refine zt2 (C:=Tryz.checked) (X:=λw _=>laidMetH Tryz.prog Rows.salesSlipsRow.laid w) (λ_ _ _ hh h=>h.of_heap hh.symm) own0 started Tryz.func5
  (zqz (C:=Tryz.checked) (enc:=enc) (os:=os) (X:=λw _=>laidMetH Tryz.prog Rows.salesSlipsRow.laid w) (World.doorLaid Tryz.prog 30 os) #[.agg #[.int .i64 0,.slice none 0 0,.slice none 0 0],.slice none 0 0,.slice none 0 0,.int .i64 0] 8 rfl (World.shaped_of_RefB ot ot) ot ot ot (door_met os _)) ?_
 intro W base args ds gs before hval0 hW hL _
 have hval:∀(j:Nat) t v,Tryz.f5.params[j]?=some t->args[j]?=some v->Value.okWide Tryz.prog W .any base t v:=hval0
 have hW':=hW
 obtain⟨p,q,hA0,hV,rfl,_,_⟩:=hW
 have hA:DataW.TrodAll enc Tryz.prog W 0 (λ_=>true) true Tryz.f5.params.toList args.toList ds p:=hA0
 rw [z0b] at hA hval
 obtain⟨v0,v1,v2,v3,d0,d1,d2,d3,p0,p1,p2,p3,rfl,rfl,rfl,h0,h1,h2,h3⟩:=trodAll_four hA
 obtain⟨rfl,rfl⟩:=trodVars_none hV
 have l0:∀x∈p0,x.block<W.heap.size:=λx hx=>by simpa using hW'.lt x (by simp [hx])
 have l1:∀x∈p1,x.block<W.heap.size:=λx hx=>by simpa using hW'.lt x (by simp [hx])
 have l2:∀x∈p2,x.block<W.heap.size:=λx hx=>by simpa using hW'.lt x (by simp [hx])
 have l3:∀x∈p3,x.block<W.heap.size:=λx hx=>by simpa using hW'.lt x (by simp [hx])
 obtain⟨most,ss,ms,r0⟩:=z2o (hval 0 25 v0 rfl rfl) h0
 obtain⟨ps1,r1⟩:=yut (hval 1 38 v1 rfl rfl) h1
 obtain⟨ps2,r2⟩:=yum (hval 2 59 v2 rfl rfl) h2
 obtain⟨a3,rfl,_,_,_⟩:=open_int zjd (hval 3 3 v3 rfl rfl) h3
 have r3:Rep (zca (zd0 W)) W (.val (.int .i64 a3)) (.int .i64 a3):=.val _
 obtain⟨u,hu⟩:=zza hL
 clear hA0 hval0
 refine(hlaw u most ss ms ps1 ps2 a3).run _ (zd0 W) W _ (λb hb=>zx7 hb) (λb o hb ho=>?_) hu ?_ λv w' hkeep hsize hos hout hv=>?_
 .obtain⟨c,t,f,e⟩:=hb;rw [e] at ho;obtain rfl:=kaw ho
  trivial
 .exact((((rNil).cons r3).cons r2).cons r1).cons r0
 .obtain⟨_,hv⟩:=hv;obtain rfl:=hv.val_eq
  have hbel:Below W.heap.size W { w' with os:=W.os,tape:=W.tape }:=⟨rfl,rfl,hout,hsize,hkeep⟩
  exact⟨⟨_,_,_,[],_,[],hW',trodAll_mk1 (shut_bool z7g _),DataW.TrodAll.of_heap (w:={ w' with os:=W.os,tape:=W.tape }) og (trodAll_mk4 (Below.trod laidOut0 ot (of_decide_eq_true ot) h0 hbel l0) (Below.trod laidOut0 ot (of_decide_eq_true ot) h1 hbel l1) (Below.trod laidOut0 ot (of_decide_eq_true ot) h2 hbel l2) (Below.trod laidOut0 ot (of_decide_eq_true ot) h3 hbel l3)),rfl,kept_of (hbel.frame _),λh=>by cases h⟩,hos⟩
theorem kfN:Tryz.checked.prog.funcNamed Rows.salesSlipsRow.func=some 5:=by kernel_rfl
theorem kfJ:joinedFacts Tryz.checked.prog 5 Tryz.f5 Rows.salesSlipsSpec Rows.salesSlipsRow=true:=by kernel_rfl
theorem kfI:Tryz.f5.isInstance Tryz.checked.prog Rows.salesSlipsRow.origin Rows.salesSlipsRow.targs:=of_decide_eq_true ot
theorem kfP:Tryz.f5.isWrapper Tryz.checked.prog Rows.salesSlipsRow.wrapper Rows.salesSlipsRow.mainSum:=by unfold Func.isWrapper;first|(rw [if_pos (by decide +kernel)];kernel_rfl)|(rw [if_neg (by decide +kernel)];exact⟨rfl,rfl⟩)
theorem kfW:Rows.salesSlipsRow.wfByText (OpenSpec.ofChange Rows.salesSlipsSpec)=true:=by kernel_rfl
theorem kfM : Tryz.checked.prog.mainIs = some (true, "a2cd5405f743bd4cee594422525db60475b5c87ac55e2686c141529d48702189".toList) := by kernel_rfl
theorem kfL:false=Tryz.checked.prog.looks []:=by kernel_rfl
theorem kfS:([25,38,59,3].all λu=>!Tryz.prog.wantsStandIn u)=true:=by kernel_rfl
theorem kfG:true=Rows.salesSlipsRow.goesBy Tryz.checked.prog:=by kernel_rfl
theorem yox(hlaw:∀u most ss ms ps1 ps2 a3,Top (cx (zch u)) 5 [bk most ss ms,.sl 1 (il ps1),.sl 1 (bl ps2),.val (.int .i64 a3)] (.val (.bool true))):Rows.SalesSlipsSaid :=
 OpenClaim.holds_of_wide_leaving_time 5 Tryz.f5 rfl rfl rfl rfl rfl rfl rfl ⟨rfl,rfl,rfl,rfl,rfl⟩ rfl rfl rfl rfl rfl kfN Tryz.func5 kfJ kfI kfP (λos started H enc _ F=>yaa hlaw os started H enc F)
theorem ybe(hlaw:∀u most ss ms ps1 ps2 a3,Top (cx (zch u)) 5 [bk most ss ms,.sl 1 (il ps1),.sl 1 (bl ps2),.val (.int .i64 a3)] (.val (.bool true))):Rows.SalesSlipsCardSaid :=
 zmn .later [.funcs, .funcs] true (true, "a2cd5405f743bd4cee594422525db60475b5c87ac55e2686c141529d48702189") false (yox hlaw) kfW salesSlips_row_tie rfl ⟨rfl, rfl⟩ kfM rfl
  (λf fn hf hfn=>by
    obtain rfl:f=5:=kaw (kfN.symm.trans hf) |>.symm;obtain rfl:fn=Tryz.f5:=(kaw (Tryz.func5.symm.trans hfn)).symm
    exact⟨kfL,λj t ht=>by
     rw [z0b] at ht;have hm:t∈[25,38,59,3]:=by simpa using kbl ht
     exact(show Tryz.prog.wantsStandIn t=false by simpa using kar.1 kfS t hm)⟩) kfG
end Go.Proofs.YtfgciihkmemdlaaGreatDoor
