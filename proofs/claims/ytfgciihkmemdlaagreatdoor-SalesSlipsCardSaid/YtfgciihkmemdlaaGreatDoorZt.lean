/- What all laws about sales rest on, beside any goroutines. Conditions: none. -/
import Derived.Test.YtfgciihkmemdlaaGreatDoorZk
import Derived.Test.YtfgciihkmemdlaaGreatDoorZr
import Derived.LaidHandle
import Derived.LaidMore
import Derived.Laws.CopyRow
import Derived.Laws.MakeOwn
import Derived.Laws.OwnMore
import Derived.OpenShut
import Derived.Test.YtfgciihkmemdlaaGreatDoorRows
namespace Go.Ab.J
open Go Go.Proofs Go.Kp Go.ChangeShapes Go.WideShapes Go.ChangeAt Go.RowKit
section
variable{H:Type}{enc:TypeId×Value->H}{P:Program}{w:World}{base:Nat}{sp:Nat->Bool}{held:Bool}
theorem add_none(b o n:Nat):(⟨b,o,none⟩:Addr).add n=⟨b,o+n,none⟩:=by unfold Addr.add;by_cases h:n=0<;>simp [h]
theorem zed{t:TypeId}{cs:List Value}{n off:Nat}{y:DataW H×List MemPlace}(hu:P.underlying t=some (.int .i64))(hc:P.cellsOf t=1)(h:DataW.trod enc P w base sp held n t ((cs.drop off).take (P.cellsOf t))=some y):∃k,cs[off]?=some (.int .i64 k)/\y.1=.lit (.int .i64 k):=by
 obtain⟨k,h1,h2,_⟩:=DataW.trod_int hu h;rw [hc] at h1;refine⟨k,?_,by rw [h2]⟩;have:((cs.drop off).take 1)[0]?=some (.int .i64 k):=by rw [h1];rfl
 simpa [ka5,kbb] using this
end
theorem zjd:Tryz.prog.underlying 3=some (.int .i64):=by kernel_rfl
theorem ycy:Tryz.prog.underlying 31=some (.int .i64):=by kernel_rfl
theorem yct:Tryz.prog.underlying 34=some (.int .i64):=by kernel_rfl
theorem u_sk:Tryz.prog.underlying 41=some (.int .i64):=by kernel_rfl
theorem z7g:Tryz.prog.underlying 4=some .bool:=by kernel_rfl
theorem zqh:Tryz.prog.cellsOf 3=1:=by kernel_rfl
theorem ycw:Tryz.prog.underlying 36=some (.struct (Tryz.prog.fieldsOf 36)):=by kernel_rfl
theorem u_sum:Tryz.prog.underlying 68=some (.struct (Tryz.prog.fieldsOf 68)):=by kernel_rfl
section
variable{H:Type}{enc:TypeId×Value->H}{w:World}{base:Nat}{sp:Nat->Bool}{held:Bool}
theorem zsc{P:Program}{t:TypeId}{n:Nat}{cs:List Value}{x:DataW H×List MemPlace}{fs:List (TypeId×Nat)}(hf:(P.fieldsOf t).toList.map (λf=>(f.type,f.offset))=fs)(hu:P.underlying t=some (.struct (P.fieldsOf t)))
  (h:DataW.trod enc P w base sp held n t cs=some x):cs.length=P.cellsOf t/\∃(xs:List (DataW H×List MemPlace)) (m:Nat),x.1=.agg (xs.map (·.1))/\xs.length=fs.length/\∀(i:Nat) q,fs[i]?=some q->∃y,xs[i]?=some y/\DataW.trod enc P w base sp held m q.1 ((cs.drop q.2).take (P.cellsOf q.1))=some y:=by
 obtain⟨xs,m,_,hx,hl,hxl,hel⟩:=DataW.trod_struct hu h
 have hlen:xs.length=fs.length:=by rw [hxl,<-hf];simp
 refine⟨hl,xs,m,by rw [hx],hlen,λi q hq=>?_⟩
 rw [<-hf,kaq] at hq
 obtain⟨f,h1,rfl⟩:=kan.1 hq
 have:=hel i f (oa h1)
 have hi:i<xs.length:=by have:=(kab.1 h1).1;rw [hxl];simpa using this
 exact⟨xs[i],kaa hi,by rw [this,kaa hi]⟩
def zq9(s:Slip):List Value:=[.int .i64 s.kind,.int .i64 s.dept,.int .i64 s.clerk,.int .i64 s.for_,.int .i64 s.lo,.int .i64 s.hi,.int .i64 s.signed]
def z7m(s:SumR):List Value:=[.int .i64 s.kind,.int .i64 s.a,.int .i64 s.lo,.int .i64 s.hi,.bool s.firm]
theorem len3{α:Type}:∀{l:List α},l.length=3->∃a b c,l=[a,b,c]
 | [a,b,c],_=>⟨a,b,c,rfl⟩
end
def zd0(w:World)(b:Nat):Prop:=∃c t f,w.heap[b]?=some (.cells c t f)
theorem zx6{w:World}{a:Addr}{v:Value}(h:w.cell? a=some v):zd0 w a.block:=by
 unfold World.cell? at h;split at h
 .exact⟨_,_,_,‹_›⟩
 .cases h
end Go.Ab.J
namespace Go.Kp
open Go
section
variable{A:Nat->Prop}{P:Program}{Q:Value->Prop}
theorem z5u(ts:Array TypeId)(ty:TypeId)(x:Value)(hx:SlA A x)(hm:∀r,x≠.map r)(h:∀v,Q v):Ft A P Q (Builtin.clear_ ts ty #[x]):=by
 unfold Builtin.clear_;simp only [List.getElem?_toArray,List.getElem?_cons_zero];split
 .rename_i t xv e2;have e2':xv=x:=by simpa using (congrArg Prod.snd e2).symm
  subst e2';rw [ft_bind];refine zai _ λdd _=>?_;split
  .exact h _
  .exact h _
  .exact h _
  .exact absurd rfl (hm _)
  .rw [ft_bind];refine za5 _ λz=>?_;rw [ft_bind];exact zc3 _ (hx _ _ _ rfl) _ 0 (h _)
  .exact trivial
 .exact trivial
theorem zsb(t:TypeId)(l c:Value)(h:∀v,Q v):Ft A P Q (Instr.makeSlice t l c):=by
 unfold Instr.makeSlice;rw [ft_bind];refine zai _ λdd _=>?_;split
 .rw [ft_bind];refine ziy _ λ_=>?_;rw [ft_bind];refine ziy _ λ_=>?_;rw [ft_bind];refine zcd _ λ_ _=>?_;dsimp only;split
  .split
   .rw [ft_bind];refine zaq _ ?_;trivial
   .split
    .rw [ft_bind];refine zaq _ ?_;trivial
    .rw [ft_bind];refine zff λ_=>?_;rw [ft_bind];refine zaq _ ?_;trivial
  .rw [ft_bind];refine zjv ?_;rw [ft_bind];refine zbm _ λ_=>?_;split
   .rw [ft_bind];refine zeq ?_;rw [ft_bind];exact zfe _ _ λa _=>h _
   .rw [ft_bind];refine za5 _ λ_=>?_;rw [ft_bind];refine zeq ?_;rw [ft_bind];exact zfe _ _ λa _=>h _
 .exact trivial
end
end Go.Kp
namespace Go.Ab
open Go Go.RowKit Go.Kp
section
variable{C:Cx}{N:Nat}{s:AS}{d:Nat}{t ty e:TypeId}{pos:String}{af:Array Edge}{g:Option (Nat×Bool)}{x y:Operand}{k:IntKind}{q:Int}{n i wd lo len:Nat}{T:TypeId}{rows:List (List AV)}{ti:TI}
theorem ztn{P:Program}{w:World}{g len cap n size:Nat}(hu:P.underlying t=some (.slice e))(hsz:(sizeOf e).run P w=.ok size w)(hn:n<=len)(hc:n<cap) :
  (Instr.sliceAt t (.slice (some ⟨g,0,none⟩) len cap) (some (.int k (n:Int))) none none).run P w=.ok (.slice (some ⟨g,n*size,none⟩) (len-n) (cap-n)) w:=by
 have h1:(n:Int)<=(len:Int):=oc
 have h2:cap≠n:=oc
 simp [Instr.sliceAt,Instr.slice,Instr.sliceBounds,Instr.sliceBound,asIntOf,run_underlying hu,hsz,h2,Addr.add_at,show ¬len<n by omega]
theorem zto{P:Program}{w:World}{g len cap n size:Nat}(hu:P.underlying t=some (.slice e))(hsz:(sizeOf e).run P w=.ok size w)(hc:n<=cap) :
  (Instr.sliceAt t (.slice (some ⟨g,0,none⟩) len cap) none (some (.int k (n:Int))) none).run P w=.ok (.slice (some ⟨g,0,none⟩) n cap) w:=by
 have h1:(n:Int)<=(cap:Int):=oc
 simp [Instr.sliceAt,Instr.slice,Instr.sliceBounds,Instr.sliceBound,asIntOf,run_underlying hu,hsz,Addr.add_at,show ¬cap<n by omega]
theorem z2n{G:zbf}{w0:zfq}{a:Act}{w:World}{E:Env}(h:Rel G N w0 s a w E)(hl:zac s (2*i+1)=some (.buf wd T rows))(hpos:0<rows.length):∃g cap,E.buf i=.slice (some ⟨g,0,none⟩) rows.length cap/\rows.length<=cap:=by
 obtain⟨_,vs,⟨_,h3⟩,_⟩:=h.mem i _ hl;rcases h3 with ⟨_,h5⟩|⟨g,cap,cur,h3,_,_,h7,_⟩
 .omega
 .exact⟨g,cap,h3,h7⟩
theorem yey(hd:d<N)(hx:ev s x=some (.own i))(hl:zac s (2*i+1)=some (.buf wd T rows))(hy:ev s y=some (.val (.int k q)))(hu:(C.ti t).map (·.sh)=some (.sl e))(ht:C.ti e=some ti)(hs:Nat.beq ti.size wd=true)(hq:q=(n:Int))(hn:n<rows.length) :
  AOp C N ⟨some d,.slice t x (some y) none none,ty,pos,af,g⟩ (rds x++rds y++[2*i+1]) s [(2*d,.av (.osl wd i n (rows.length-n)))] :=
 zau hd λw0 E s' a w hR hr=>by
  subst hq;have hx':=zat hR (λ_ h=>by simp [h]) hx;have he2:=(hr.ev (zat hR (λ_ h=>by simp [h]) hy)).val_eq;have he:=zda (hr.ev hx');have hl':zac s' (2*i+1)=some (.buf wd T rows):=(hR _ od).trans hl;obtain⟨gg,cap,h1,h2⟩:=z2n hr hl' oc;cases htt:C.ti t with
  | none=>rw [htt] at hu;cases hu
  | some tj =>
    rw [htt] at hu;have hsz:=Cx.ti_size ht w;rw [kaj hs] at hsz;have hrun:=ztn (P:=C.P) (w:=w) (g:=gg) (len:=rows.length) (cap:=cap) (n:=n) (k:=k) (Cx.under_sl htt (oa hu)) hsz oc oc;refine⟨_,?_,.osl wd i n (rows.length-n) gg rows.length cap h1,λj hj=>hr.ev_scp hx' j oQ⟩;simp only [execOp,kcc,Option.map_none,he.trans h1,he2]
    rw [Sem.run_bind,hrun];rfl
theorem yez(hd:d<N)(hx:ev s x=some (.own i))(hl:zac s (2*i+1)=some (.buf wd T rows))(hy:ev s y=some (.val (.int k q)))(hu:(C.ti t).map (·.sh)=some (.sl e))(ht:C.ti e=some ti)(hs:Nat.beq ti.size wd=true)(hq:q=(n:Int))(hn:n<=rows.length)(hp:0<rows.length) :
  AOp C N ⟨some d,.slice t x none (some y) none,ty,pos,af,g⟩ (rds x++rds y++[2*i+1]) s [(2*d,.av (.osl wd i 0 n))] :=
 zau hd λw0 E s' a w hR hr=>by
  subst hq;have hx':=zat hR (λ_ h=>by simp [h]) hx;have he2:=(hr.ev (zat hR (λ_ h=>by simp [h]) hy)).val_eq;have he:=zda (hr.ev hx');have hl':zac s' (2*i+1)=some (.buf wd T rows):=(hR _ od).trans hl;obtain⟨gg,cap,h1,h2⟩:=z2n hr hl' hp;cases htt:C.ti t with
  | none=>rw [htt] at hu;cases hu
  | some tj =>
    rw [htt] at hu;have hsz:=Cx.ti_size ht w;rw [kaj hs] at hsz;have hrun:=zto (P:=C.P) (w:=w) (g:=gg) (len:=rows.length) (cap:=cap) (n:=n) (k:=k) (Cx.under_sl htt (oa hu)) hsz oc;refine⟨.slice (some ⟨gg,0,none⟩) n cap,?_,?_,λj hj=>hr.ev_scp hx' j oQ⟩
    .simp only [execOp,kcc,Option.map_none,he.trans h1,he2];rw [Sem.run_bind,hrun];rfl
    .have:=Rep.osl (E:=E) (w:=w) wd i 0 n gg rows.length cap h1;simpa using this
theorem ydy{R:List Nat}{l h m:Option Operand}(hx:ev s x=some (.own i))(hl:zac s (2*i+1)=some (.buf wd T rows))(hp:Nat.ble 1 rows.length=true)(hs:zly (rds x++[2*i+1]) R=true):AFt C ⟨some d,.slice t x l h m,ty,pos,af,g⟩ R s:=λN w0 E s' a w hR hr=>by
 have hv:=zda (hr.ev (zat hR (λr h=>zkw hs oo) hx));obtain⟨gg,cap,h1,_⟩:=z2n hr ((hR _ (zkw hs od)).trans hl) (kah hp);unfold execOp;refine zjc (zjt _ _ _ _ _ (λa he=>?_) λ_=>trivial);rw [hv,h1] at he;cases he
theorem znt{m:Nat}(h:(C.ti t).map (·.sh)=some (.ar m e)):C.P.underlying t=some (.array m e):=by
 cases htt:C.ti t with
 | none=>rw [htt] at h;cases h
 | some tj=>rw [htt] at h;exact Cx.under_ar htt (oa h)
theorem a_slP{off m:Nat}(hd:d<N)(hx:ev s x=some (.ptr i off))(hsh:(C.ti t).map (·.sh)=some (.ar m e))(ht:C.ti e=some ti) :
  AOp C N ⟨some d,.slice t x none none none,ty,pos,af,g⟩ (rds x++[2*i+1]) s [(2*d,.av (.psl i off m))] :=
 zau hd λw0 E s' a w hR hr=>by
  have ha:=znt hsh;have hx':=zat hR (λ_ h=>by simp [h]) hx;have h1:=hr.ev hx';generalize he:a.eval x=v at h1;cases h1 with
  | ptr =>have hsz:=Cx.ti_size ht w;refine⟨_,?_,.psl i off m,λj hj=>hr.ev_scp hx' j oQ⟩;simp [execOp,he,Instr.sliceAt,Instr.sliceBounds,Instr.sureAddr,run_underlying ha,hsz];exactλ_=>rfl
theorem ydx{R:List Nat}{l h m:Option Operand}{p:AV}(hx:ev s x=some p)(hp:ptB C s p=true)(hs:zly (rds x++ptK p) R=true):AFt C ⟨some d,.slice t x l h m,ty,pos,af,g⟩ R s:=λN w0 E s' a w hR hr=>by have hR:=agr hR hs;unfold execOp;exact zjc (zjt _ _ _ _ _ (zvt hr (hr.ev ((zas λr h=>hR r oo).trans hx)) ((zl4 λr h=>hR r oo).trans hp)) λ_=>trivial)
theorem ye8(hd:d<N)(hx:ev s x=some (.osl wd i lo n))(ht:C.isl t=true) :
  AOp C N ⟨some d,.call { callee:=.builtin .len,args:=#[x],argTypes:=#[t] },ty,pos,af,g⟩ (rds x) s [(2*d,.av (.val (.int .i64 (n:Int))))] :=
 zau hd λw0 E s' a w hR hr=>by
  obtain⟨e,hu⟩:=Cx.isl_of ht;have h1:=hr.ev (zat hR (λ_ h=>by simp [h]) hx);generalize he:a.eval x=v at h1;cases h1 with
  | osl _ _ _ _ gg l c hg=>exact⟨_,zi1 he (ze7 hu),.val _,by simp [AV.ids]⟩
theorem yd0{R:List Nat}{ts:Array TypeId}(hx:ev s x=some (.osl wd i lo n))(hs:zly (rds x) R=true):AFt C ⟨some d,.call { callee:=.builtin .len,args:=#[x],argTypes:=ts },ty,pos,af,g⟩ R s:=λN w0 E s' a w hR hr=>by
 have hR:=agr hR hs;have h1:=hr.ev ((zas λr h=>hR r h).trans hx);have h2:(∀r,a.eval x≠.map r)/\∀c,a.eval x≠.chan c:=by
  generalize a.eval x=v at h1;cases h1 with
  | osl=>exact⟨λ_ e=>oW,λ_ e=>oW⟩
 have:=z77 (A:=inA E s' w) (P:=C.P) (Q:=λ_=>True) ts ty (a.eval x) (λr e=>absurd e (h2.1 _)) h2.2 λ_=>trivial;simpa [execOp,resolve,invoke,builtin] using zjc this
theorem z61(hd:d<N)(hx:ev s x=some (.osl wd i lo len))(hy:ev s y=some (.val (.int k q)))(ht:C.esl t=some wd)(hq:q=(n:Int))(hn:n<len) :
  AOp C N ⟨some d,.indexAddr t x y,ty,pos,af,g⟩ (rds x++rds y) s [(2*d,.av (.oelt wd i (lo+n) 0))] :=
 zau hd λw0 E s' a w hR hr=>by
  have hx':=zat hR (λ_ h=>by simp [h]) hx;have he2:=(hr.ev (zat hR (λ_ h=>by simp [h]) hy)).val_eq;have h1:=hr.ev hx';generalize he:a.eval x=v at h1;cases h1 with
  | osl _ _ _ _ gg l c hg =>refine⟨_,zdj he he2 (zdo ht hq hn),?_,λj hj=>hr.ev_scp hx' j oQ⟩;have:=Rep.oelt (E:=E) (w:=w) wd i (lo+n) 0 gg l c hg;simpa [Nat.add_mul] using this
theorem z63{z:List AV}(hx:ev s x=some (.osl wd i n 1))(hl:zac s (2*i+1)=some (.buf wd T rows))(ht:(C.ti t).map (·.sh)=some (.sl e))(he:C.ti e=some ti)(hs:Nat.beq ti.zero.length wd=true)(hz:z=ti.zero.map AV.val)(ho:ti.zero.all (λv=>v.oneCell')=true)(hn:n<rows.length) :
  AOp C N ⟨none,.call { callee:=.builtin .clear,args:=#[x],argTypes:=#[t] },ty,pos,af,g⟩ (rds x++[2*i+1]) s [(2*i+1,.buf wd T (rows.set n z))]:=by
 intro w0 E s' a w hR hr K Q hK
 subst hz
 have hx':=zat hR (λ_ h=>by simp [h]) hx
 have hl':zac s' (2*i+1)=some (.buf wd T rows):=(hR _ od).trans hl
 have hs:=kaj hs
 obtain⟨zv,hz1,hz2⟩:=Cx.ti_zero he w
 obtain⟨hrow,_⟩:=hr.mem i _ hl'
 obtain⟨row,hrn⟩:∃row,rows[n]?=some row:=⟨_,kaa hn⟩
 have hrl:=(hrow row (kag hrn)).1
 have hrep:yf1 E w (ti.zero.map AV.val) ti.zero:=⟨od,λj x v hx hv=>by rw [kaq,hv] at hx;cases hx;exact .val v⟩
 have hspl:spl row 0 (ti.zero.map AV.val)=ti.zero.map AV.val:=by simp only [spl,kd5,kdn,kb0,ka6];rw [ka7.2 oc,kda]
 obtain⟨b,l,c,vs,h3,h4,h5,h6⟩:=hr.writebuf (off:=0) hl' hrn (zs:=ti.zero.map AV.val) oy hrep λq hq=>by obtain⟨v,hv,rfl⟩:=kav.1 hq;exact⟨rfl,kar.1 ho v hv⟩
 have h7:=hr.ev hx'
 generalize hev:a.eval x=u at h7
 cases h7 with
 | osl _ _ _ _ gg l' c' hg =>
   rw [h3] at hg;simp only [Value.slice.injEq,kap,Addr.mk.injEq] at hg;obtain⟨⟨rfl,_,_⟩,_,_⟩:=hg;cases htt:C.ti t with
   | none=>rw [htt] at ht;cases ht
   | some tj =>
     rw [htt] at ht;have hu:=Cx.under_sl htt (oa ht);have hzc:(Builtin.zeroCells zv.cells 1).toList=ti.zero:=by
      rw [<-hz2];apply kc0;intro j;simp only [Builtin.zeroCells,Nat.one_mul];rcases kae j zv.cells.size with hj|hj
      .simp [hj,Nat.mod_eq_of_lt hj]
      .simp [hj]
     have hst:=run_storeCells_at C.P b (n*wd) T ti.zero 0 vs w h4 (by simp at h5;omega) λv hv=>kar.1 ho v hv;unfold Oper.wp;have hrun:(execOp a.eval ⟨none,.call { callee:=.builtin .clear,args:=#[x],argTypes:=#[t] },ty,pos,af,g⟩).run C.P w=.ok (.value (.tuple #[])) (w.setRow b (vs.toList.take (n*wd+0)++ti.zero++vs.toList.drop (n*wd+0+ti.zero.length)).toArray):=by
      simp [execOp,resolve,invoke,builtin,Builtin.clear_,hev,run_underlying hu,hz1,hzc,hst]
     rw [hrun];rw [hspl] at h6;exact hK _ _ E h6
theorem ya3{R:List Nat}{ts:Array TypeId}(hx:ev s x=some (.osl wd i lo n))(hp:(zea (zac s (2*i+1))).isSome=true)(hs:zly (rds x++[2*i+1]) R=true):AFt C ⟨none,.call { callee:=.builtin .clear,args:=#[x],argTypes:=ts },ty,pos,af,g⟩ R s:=λN w0 E s' a w hR hr=>by
 have hR:=agr hR hs;have h1:=hr.ev ((zas λr h=>hR r oo).trans hx);have h3:=zra hr h1 (show slB s' (.osl wd i lo n)=true by simp only [slB];rw [hR _ od];exact hp);have h2:∀r,a.eval x≠.map r:=by
  generalize a.eval x=v at h1;cases h1 with
  | osl=>exactλ_ e=>oW
 have:=z5u (A:=inA E s' w) (P:=C.P) (Q:=λ_=>True) ts ty (a.eval x) h3 h2 λ_=>trivial;simpa [execOp,resolve,invoke,builtin] using zjc this
theorem z3i{off m:Nat}{cs:List AV}{ys:List AV}(hd:d<N)(hx:ev s x=some (.psl i off m))(hl:zac s (2*i+1)=some (.cells T cs))(hy:ev s y=some (.sl 1 (ys.map λz=>[z])))(ht:(C.ti t).map (·.sh)=some (.sl e))(he:C.ti e=some ti)(hs:Nat.beq ti.size 1=true)(hm:Nat.ble ys.length m=true)(hf:Nat.ble (off+ys.length) cs.length=true)(hne:Nat.ble 1 ys.length=true) :
  AOp C N ⟨some d,.call { callee:=.builtin .copy,args:=#[x,y],argTypes:=#[t,t] },ty,pos,af,g⟩ (rds x++rds y++[2*i+1]) s [(2*d,.av (.val (.int .i64 (ys.length:Int)))),(2*i+1,.cells T (spl cs off ys))]:=by
 intro w0 E s' a w hR hr K Q hK
 have hs:=kaj hs
 have hm:=kah hm
 have hf:=kah hf
 have hne:=kah hne
 have hx':=zat hR (λ_ h=>by simp [h]) hx
 have hy':=zat hR (λ_ h=>by simp [h]) hy
 have hl':zac s' (2*i+1)=some (.cells T cs):=(hR _ od).trans hl
 obtain⟨vs,h3,h4,h5⟩:=hr.mem i _ hl'
 have h6:=hr.ev hx'
 have h7:=hr.ev hy'
 generalize hex:a.eval x=u at h6
 generalize hey:a.eval y=v at h7
 cases htt:C.ti t with
 | none=>rw [htt] at ht;cases ht
 | some tj =>
   rw [htt] at ht;have hu:=Cx.under_sl htt (oa ht);cases h6 with
   | psl =>
     generalize hrows:ys.map (λz=>[z])=rws at h7;cases h7 with
     | nil=>cases ys with
       | nil=>simp at hne
       | cons a l=>simp at hrows
     | sl _ _ b o c val hb hw hc h =>
       have hget:∀(j:Nat) z,ys[j]?=some z->z.ids=[]/\z.atom=true/\w.cell? ⟨b,o+j,none⟩=some (val j 0)/\Rep E w z (val j 0):=λj z hj=>by
        have hrow:rws[j]?=some [z]:=by rw [<-hrows,kaq,hj];rfl
        obtain⟨p1,p2,p3⟩:=hc j [z] 0 z hrow rfl;exact⟨p1,p2,oa p3,h j [z] 0 z hrow rfl⟩
       have hlen:rws.length=ys.length:=by rw [<-hrows];simp
       have hrep:yf1 E w ys ((List.range ys.length).map λj=>val j 0):=⟨od,λj z v hz hv=>by
        have hj:=(kab.1 hz).1;simp [hj] at hv;rw [<-hv];exact(hget j z hz).2.2.2⟩
       have hinfo:(C.P.info? e).map (·.size)=some 1:=by have:=Cx.ti_size he w;obtain⟨_,_,jj,zz,g1,g2,g3,g4,g5,g6⟩:=Cx.ti_all he;rw [g1];simp [g4,hs]
       have hone:∀v∈((List.range ys.length).map λj=>val j 0),v.oneCell'=true:=λv hv=>by obtain⟨j,hj,rfl⟩:=kav.1 hv;rw [ka3] at hj;obtain⟨p1,p2,p3,p4⟩:=hget j _ (kaa hj);exact p4.one p2
       have hcl:=h4.1;have hrun:=run_copy_row C.P w t t ty e (E.mem i) off m m ⟨b,o,none⟩ rws.length c vs.toArray T ((List.range ys.length).map λj=>val j 0) hu hinfo h3 (by rw [ka6,List.length_range,hlen];exact(kcd hm).symm) (λj v hv=>by
        have hj:j<ys.length:=by have:=(kab.1 hv).1;simpa using this
        simp [hj] at hv;rw [Go.Ab.J.add_none,<-hv];exact(hget j _ (kaa hj)).2.2.1) oy hone
       unfold Oper.wp;have hexec:(execOp a.eval ⟨some d,.call { callee:=.builtin .copy,args:=#[x,y],argTypes:=#[t,t] },ty,pos,af,g⟩).run C.P w=.ok (.value (goInt ys.length)) (w.setRow (E.mem i) (vs.take off++((List.range ys.length).map λj=>val j 0)++vs.drop (off+ys.length)).toArray):=by simp only [execOp,resolve,invoke,builtin,Sem.run_bind];simp [hex,hey,hrun]
       rw [hexec];have hw2:=hr.write hl' (ys:=spl cs off ys) (us:=vs.take off++((List.range ys.length).map λj=>val j 0)++vs.drop (off+ys.length)) (by
        unfold spl;exact((h4.take off).append hrep).append (h4.drop _)) (λq hq=>by
        simp only [spl,kax] at hq;rcases hq with (hq|hq)|hq
        .exact h5 q (kbz hq)
        .obtain⟨j,hj⟩:=kba hq;exact(hget j q hj).2.1
        .exact h5 q (kby hq)) λk hk=>by
        simp only [spl,zlb] at hk;rcases hk with (hk|hk)|hk
        .exact hr.scp _ _ hl' k (zml hk)
        .obtain⟨q,hq,hqk⟩:=zal.1 hk;obtain⟨j,hj⟩:=kba hq;rw [(hget j q hj).1] at hqk;cases hqk
        .exact hr.scp _ _ hl' k (zmm hk)
       have:=hw2.put (d:=d) (x:=.val (.int .i64 (ys.length:Int))) (v:=goInt ys.length) hd (.val _) ox;exact hK _ _ E this
end
end Go.Ab
namespace Go.Ab
open Go Go.RowKit Go.Kp
section
variable{C:Cx}{N:Nat}{s:AS}{d:Nat}{t ty e:TypeId}{pos:String}{af:Array Edge}{g:Option (Nat×Bool)}{x y:Operand}{k k2:IntKind}{q:Int}{n i wd lo len:Nat}{T:TypeId}{rows:List (List AV)}{ti:TI}
def isP:AV->Bool
 | .ptr _ _|.elt _ _ _ _|.oelt _ _ _ _=>true
 | _=>false
theorem z7q{E:Env}{w:World}{p:AV}{v:Value}(h:Rep E w p v)(hp:isP p=true):∃a,v=.pointer (some a):=by cases h<;>first|exact⟨_,rfl⟩|cases hp
theorem ye1{p:AV}(hd:d<N)(hx:ev s x=some p)(hp:isP p=true):AOp C N ⟨some d,.nilCheck x,ty,pos,af,g⟩ (rds x) s [(2*d,.av p)] :=
 zau hd λw0 E s' a w hR hr=>by have hx':=zat hR (λ_ h=>h) hx;have h1:=hr.ev hx';obtain⟨b,hb⟩:=z7q h1 hp;exact⟨_,by simp [execOp,hb],h1,λj hj=>hr.ev_scp hx' j hj⟩
theorem ydz{R:List Nat}{p:AV}(hx:ev s x=some p)(hp:isP p=true)(hs:zly (rds x) R=true):AFt C ⟨some d,.nilCheck x,ty,pos,af,g⟩ R s:=λN w0 E s' a w hR hr=>by have hR:=agr hR hs;obtain⟨b,hb⟩:=z7q (hr.ev ((zas λr h=>hR r h).trans hx)) hp;unfold execOp;simp only [hb];rw [zce];exact Or.inl ⟨_,rfl⟩
theorem ybz{xs:List (List AV)}{t':TypeId}(hd:d<N)(hx:ev s x=some (.sl wd xs))(hy:ev s y=some (.val (.slice none 0 0)))(hu:C.isl t=true)(hne:Nat.ble 1 xs.length=true):AOp C N ⟨some d,.binOp .eql t x y t',ty,pos,af,g⟩ (rds x++rds y) s [(2*d,.av (.val (.bool false)))] :=
 zau hd λw0 E s' a w hR hr=>by
  have h1:=hr.ev (zat hR (λ_ h=>by simp [h]) hx);have he2:=(hr.ev (zat hR (λ_ h=>by simp [h]) hy)).val_eq;obtain⟨e,hu⟩:=Cx.isl_of hu;generalize he:a.eval x=v at h1;cases h1 with
  | nil=>simp at hne
  | sl _ _ b o c val hb hw hc h =>
    have hq:∀dd,(Op.equalIn (dd+1) t (.slice (some ⟨b,o,none⟩) xs.length c) (.slice none 0 0)).run C.P w=.ok false w:=λdd=>by rw [Op.equalIn];simp [run_underlying hu,go_sem]
    refine⟨.bool false,?_,.val _,by simp [AV.ids]⟩;have:=hq 9999;simp [execOp,he,he2,eqGuard,binOp,Op.equal,Op.maxDepth] at this |-;simp [this]
theorem z1z{R:List Nat}{xs:List (List AV)}{t':TypeId}(hx:ev s x=some (.sl wd xs))(hy:ev s y=some (.val (.slice none 0 0)))(hs:zly (rds x++rds y) R=true):AFt C ⟨some d,.binOp .eql t x y t',ty,pos,af,g⟩ R s:=λN w0 E s' a w hR hr=>by
 have hR:=agr hR hs;have h1:=hr.ev ((zas λr h=>hR r oo).trans hx);have h2:=(hr.ev ((zas λr h=>hR r oo).trans hy)).val_eq;obtain⟨a1,n1,c1,e1⟩:∃a1 n1 c1,a.eval x=.slice a1 n1 c1:=by generalize a.eval x=v at h1;cases h1<;>exact⟨_,_,_,rfl⟩
 refine zjc ?_;rw [ft_bind,e1,h2];have hg:Ft (inA E s' w) C.P (λ_=>True) (eqGuard .eql t x y (.slice a1 n1 c1) (.slice none 0 0)):=trivial;refine ft_mono (Q:=λ_=>True) hg λ_ _=>?_;unfold binOp;rw [ft_bind];have key:∀dd,Ft (inA E s' w) C.P (λa=>Ft (inA E s' w) C.P (λx=>True) (pure (Value.bool a))) (Op.equalIn (dd+1) t (.slice a1 n1 c1) (.slice none 0 0)):=λdd=>by
  unfold Op.equalIn;rw [ft_bind];refine zai _ λde _=>?_;split<;>first|exact trivial|contradiction
 exact key 9999
theorem a_mks{z:Value}(hd:d<N)(ht:C.eap t=some (e,1))(hz:(C.ti e).map (·.zero)=some [z])(hf:zac s (2*d+1)=none)(hx:ev s x=some (.val (.int k q)))(hy:ev s y=some (.val (.int k2 q)))(hq:q=(n:Int))(hn:n<=100000)(hb:(C.P.info? e).all (λi=>Nat.ble i.bytes 8)=true)(ho:z.oneCell'=true) :
  AOp C N ⟨some d,.makeSlice t x y,ty,pos,af,g⟩ (rds x++rds y++[2*d+1]) s [(2*d,.av (.own d)),(2*d+1,.buf 1 e (List.replicate n [.val z]))]:=by
 intro w0 E s' a w hR hr K Q hK
 subst hq
 have he1:=(hr.ev (zat hR (λ_ h=>by simp [h]) hx)).val_eq
 have he2:=(hr.ev (zat hR (λ_ h=>by simp [h]) hy)).val_eq
 obtain⟨h1,i,zv,h2,h3,h4,h5,h6,h7⟩:=Cx.eap_of ht
 have hbb:i.bytes<=8:=by rw [h2] at hb;exact kah (oa hb)
 have hzz:zv.cells.toList=[z]:=by
  cases hti:C.ti e with
  | none=>rw [hti] at hz;cases hz
  | some tj =>
    rw [hti] at hz;obtain⟨_,_,jj,z2,g1,g2,g3,_⟩:=Cx.ti_all hti;rw [h2] at g1;cases g1
    rw [h3] at g2;cases g2
    rw [g3];simpa using hz
 have hrun:=run_make (P:=C.P) w t e i zv h1 h2 h3 k k2 n n oc (kek _) (by
  have h0:((i.bytes*n:Nat):Int)<=((8*100000:Nat):Int):=Int.ofNat_le.2 (Nat.mul_le_mul hbb hn);rw [Int.natCast_mul] at h0;have h1:((8*100000:Nat):Int)<=281474976710656:=oe
  omega) oc
 simp only [kb9,h4,kd7] at hrun
 have ho2:(w.alloc (.cells (madeCells zv.cells n) e)).ownsRow w0.base e 1 (.slice (some ⟨w.heap.size,0,none⟩) n n) n (madeCells zv.cells n).toList :=
  World.ownsRow_lit w _ n hr.ext.base (kak hn oe) (by rw [size_madeCells,kd7])
 have hcs:(madeCells zv.cells n).toList=List.replicate n z:=by
  have hsz:zv.cells=#[z]:=by rw [<-Array.toList_inj];exact hzz
  apply kc0;intro j;rw [hsz];rcases kae j n with hj|hj
  .simp [madeCells,hj,Nat.mod_one]
  .simp [madeCells,hj]
 rw [hcs] at ho2
 have hfl:∀n:Nat,(List.replicate n [AV.val z]).flatten=List.replicate n (AV.val z):=λn=>by
  induction n with
  | zero=>rfl
  | succ n ih=>simp [List.replicate_succ,ih]
 have hrep:yf1 E w (List.replicate n [AV.val z]).flatten (List.replicate n z):=by
  rw [hfl];exact⟨od,λj x v hx hv=>by
   rw [List.getElem?_replicate] at hx hv;split at hx
   .rw [if_pos ‹_›] at hv;cases hx;cases hv;exact .val z
   .cases hx⟩
 unfold Oper.wp
 have hexec:(execOp a.eval ⟨some d,.makeSlice t x y,ty,pos,af,g⟩).run C.P w=.ok (.value (.slice (some ⟨w.heap.size,0,none⟩) n n)) (w.alloc (.cells (madeCells zv.cells n) e)):=by simp [execOp,he1,he2,hrun]
 rw [hexec]
 have hr2:=hr.addbuf (i:=d) (rows:=List.replicate n [.val z]) (vs:=List.replicate n z) (wd:=1) (T:=e) ((hR _ od).trans hf) (Below.alloc (Below.refl _ _) (kac _) _) (oa ho2) (λb hb=>by simp [Value.ownBlock] at hb;omega) hrep (λrow hrow=>by
  have:=kef hrow;subst this;exact⟨rfl,λx hx=>by simp at hx;subst hx;exact⟨rfl,ho⟩⟩)
 refine hK _ _ _ (hr2.put (x:=.own d) hd ?_ λk hk=>?_)
 .have:=Rep.own (E:=E.bufAt d (.slice (some ⟨w.heap.size,0,none⟩) n n)) (w:=w.alloc (.cells (madeCells zv.cells n) e)) d oE;simpa [Env.bufAt] using this
 .simp [AV.ids] at hk;subst hk;rw [zaa,if_pos rfl];simp
theorem f_mks{R:List Nat}:AFt C ⟨some d,.makeSlice t x y,ty,pos,af,g⟩ R s:=λN w0 E s' a w hR hr=>by unfold execOp;exact zjc (zsb _ _ _ λ_=>trivial)
theorem a_slE{xs:List (List AV)}{row:List AV}{off m n2:Nat}(hd:d<N)(hx:ev s x=some (.elt wd xs n off))(hn:xs[n]?=some row)(hy:ev s y=some (.val (.int k q)))(hsh:(C.ti t).map (·.sh)=some (.ar m e))(ht:C.ti e=some ti)(hq:q=(n2:Int))(hm:n2<=m)(hf:Nat.ble (off+m) row.length=true)(_hp:Nat.ble 1 m=true) :
  AOp C N ⟨some d,.slice t x none (some y) none,ty,pos,af,g⟩ (rds x++rds y) s [(2*d,.av (.sl 1 (((row.drop off).take n2).map λz=>[z])))] :=
 zau hd λw0 E s' a w hR hr=>by
  have ha:=znt hsh;subst hq;have hf:=kah hf;have hf:off+n2<=row.length:=oc
  have he2:=(hr.ev (zat hR (λ_ h=>by simp [h]) hy)).val_eq;have h1:=hr.ev (zat hR (λ_ h=>by simp [h]) hx);generalize he:a.eval x=v at h1;cases h1 with
  | elt _ _ b o _ _ val hb hw hc h =>
    have hsz:=Cx.ti_size ht w;have hm2:((n2:Nat):Int)<=(m:Int):=oc
    have hget:∀(j:Nat) z,((row.drop off).take n2)[j]?=some z->row[off+j]?=some z:=λj z hj=>by
     rw [ka5] at hj;split at hj
     .rwa [kbb] at hj
     .cases hj
    have hlen:(((row.drop off).take n2).map λz=>[z]).length=n2:=by simp;omega
    refine⟨.slice (some ⟨b,o+n*wd+off,none⟩) (((row.drop off).take n2).map λz=>[z]).length m,?_,?_,by simp [AV.ids]⟩
    .rw [hlen];simp [execOp,he,he2,Instr.sliceAt,Instr.sliceBounds,Instr.sliceBound,asIntOf,Instr.sureAddr,run_underlying ha,hsz,hm];exactλ_=>rfl
    .refine .sl 1 _ b (o+n*wd+off) m (λj _=>val n (off+j)) hb (λr hr=>?_) (λj r l x hj hl=>?_) (λj r l x hj hl=>?_) (by rw [hlen];omega)
     .obtain⟨z,_,rfl⟩:=kav.1 hr;rfl
     .rw [kaq] at hj;obtain⟨z,hz,rfl⟩:=kan.1 hj;cases l with
      | succ l=>simp at hl
      | zero =>simp at hl;subst hl;obtain⟨p1,p2,p3⟩:=hc n row (off+j) z hn (hget j z hz);exact⟨p1,p2,by rw [show o+n*wd+off+j*1+0=o+n*wd+(off+j) by omega];exact p3⟩
     .rw [kaq] at hj;obtain⟨z,hz,rfl⟩:=kan.1 hj;cases l with
      | succ l=>simp at hl
      | zero =>simp at hl;subst hl;exact h n row (off+j) z hn (hget j z hz)
end
theorem Rel.frzC{G:zbf}{N:Nat}{w0:zfq}{s:AS}{a:Act}{w:World}{E:Env}{i:Nat}{T:TypeId}{xs:List AV}(h:Rel G N w0 s a w E)(hl:zac s (2*i+1)=some (.cells T xs)) :
  ∃E':Env,Rel G N w0 ((2*i+1,.dead)::s) a w E'/\E'.mem=E.mem/\E'.buf=E.buf/\(∀b,E.imm b->E'.imm b)/\E'.imm (E.mem i):=by
 have hbi:blk E i (zac s (2*i+1))=some (E.mem i):=by rw [hl];rfl
 refine⟨{ E with imm:=λb=>E.imm b\/b=E.mem i },?_,rfl,rfl,λ_ h=>.inl h,.inr rfl⟩
 have hne:∀j,j≠i->zac ((2*i+1,za7.dead)::s) (2*j+1)=zac s (2*j+1):=λj hj=>by rw [zaa,if_neg oc]
 have heq:zac ((2*i+1,za7.dead)::s) (2*i+1)=some .dead:=by rw [zaa,if_pos rfl]
 have hblk:∀j b,blk { E with imm:=λb=>E.imm b\/b=E.mem i } j (zac ((2*i+1,za7.dead)::s) (2*j+1))=some b->j≠i/\blk E j (zac s (2*j+1))=some b:=λj b hb=>by
  by_cases e:j=i
  .subst e;rw [heq] at hb;cases hb
  .rw [hne j e] at hb;refine⟨e,?_⟩;rw [<-hb];cases zac s (2*j+1) with
   | none=>rfl
   | some c=>cases c<;>rfl
 have hm:∀{x v},Rep E w x v->Rep { E with imm:=λb=>E.imm b\/b=E.mem i } w x v:=λhx=>Rep.step (λ_ h=>Or.inl h) (zdy.refl E w) hx λ_ _=>⟨rfl,rfl⟩
 refine⟨h.sz,h.df,h.dfo,λt x hx=>hm (h.tmp t x oH),λj c hc=>?_,λj k b hjk hb hb2=>?_,λj b hb=>?_,λb hb=>?_,h.ext,λb hb hlt=>?_,λk c hk j hj=>?_,zb3.step h.glb (λ_ h=>.inl h) (zdy.refl E w)⟩
 .by_cases e:j=i
  .subst e;rw [heq] at hc;cases hc
   trivial
  .rw [hne j e] at hc;exact(h.mem j c hc).step (λ_ h=>Or.inl h) (zdy.refl E w) ⟨rfl,rfl⟩ (λ_ _=>⟨rfl,rfl⟩) λ_ _=>rfl
 .obtain⟨_,h1⟩:=hblk j b hb;obtain⟨_,h2⟩:=hblk k b hb2;exact h.dis j k b hjk h1 h2
 .obtain⟨e1,h1⟩:=hblk j b hb;obtain⟨n1,n2,n3⟩:=h.new j b h1;exact⟨n1,λhi=>hi.elim n2 λe=>h.dis i j b (λe2=>e1 e2.symm) (by rw [hbi,e]) h1,n3⟩
 .rcases hb with hb|rfl
  .exact h.imm b hb
  .exact(h.new i _ hbi).2.2
 .rcases hb with hb|rfl
  .exact h.old b hb hlt
  .exact((h.new i _ hbi).1.2 hlt).2
 .by_cases e:2*j+1=2*i+1
  .rw [zaa,if_pos e.symm];simp
  .rw [zaa,if_neg (Ne.symm e)];rw [zaa] at hk;split at hk
   .cases hk;cases hj
   .exact h.scp k c hk j hj
theorem zvs{a:Act}{d:Nat}:a.put (some d) (a.tmps.getD d undef)=a:=by
 have h3:a.tmps.setIfInBounds d (a.tmps.getD d undef)=a.tmps:=by
  apply kce;intro i;by_cases e:d=i
  .subst e;by_cases hl:d<a.tmps.size
   .simp [hl]
   .simp [hl]
  .rw [kal e]
 cases a;simp only [Act.put] at h3 |-
 rw [h3]
theorem zcj{G:zbf}{N:Nat}{s:AS}{T:TypeId}{xs:List AV}{o:Nat}(t i:Nat)(hl:zac s (2*i+1)=some (.cells T xs))(hi:zbb xs=[])(ht:zac s (2*t)=some (.av (.ptr i o)))(hN:t<N) :
  Sub G N s ((2*t,.av (.elt xs.length [xs] 0 o))::(2*i+1,.dead)::s):=λw0 a w E hr=>by
 obtain⟨E',h1,h2,h3,h4,h5⟩:=hr.frzC hl
 obtain⟨vs,g1,g2,g3⟩:=hr.mem i _ hl
 have hv:=hr.tmp _ _ ht
 have hrep:Rep E' w (.elt xs.length [xs] 0 o) (a.tmps.getD t undef):=by
  generalize hg:a.tmps.getD t undef=v at hv;cases hv with
  | ptr =>
    have hids:∀y∈xs,y.ids=[]:=λy hy=>zkf hi hy;have h6:yf1 E' w xs vs:=yf1.step (E:=E) h4 (zdy.refl E w) g2 oV;have:=Rep.elt (E:=E') (w:=w) xs.length [xs] (E.mem i) 0 0 o (λ_ j=>(vs[j]?).getD undef) h5 od (λk row j x hk hj=>?_) λk row j x hk hj=>?_
    .simpa using this
    .cases k with
     | succ k=>simp at hk
     | zero =>simp at hk;subst hk;obtain⟨v,hv,_⟩:=h6.get hj;refine⟨hids x (kag hj),g3 x (kag hj),?_⟩;simp only [Nat.zero_mul,kb0,zj2 g1,hv,kcp]
    .cases k with
     | succ k=>simp at hk
     | zero =>simp at hk;subst hk;obtain⟨v,hv,hr⟩:=h6.get hj;rw [hv];exact hr
 have h7:=h1.put hN hrep ox
 rw [zvs] at h7
 exact⟨E',h7⟩
theorem Rel.killM{G:zbf}{N:Nat}{w0:zfq}{s:AS}{a:Act}{w:World}{E:Env}{i:Nat}(h:Rel G N w0 s a w E):Rel G N w0 ((2*i+1,.dead)::s) a w E:=by
 have hne:∀j,j≠i->zac ((2*i+1,za7.dead)::s) (2*j+1)=zac s (2*j+1):=λj hj=>by rw [zaa,if_neg oc]
 have heq:zac ((2*i+1,za7.dead)::s) (2*i+1)=some .dead:=by rw [zaa,if_pos rfl]
 have hblk:∀j b,blk E j (zac ((2*i+1,za7.dead)::s) (2*j+1))=some b->j≠i/\blk E j (zac s (2*j+1))=some b:=λj b hb=>by
  by_cases e:j=i
  .subst e;rw [heq] at hb;cases hb
  .rw [hne j e] at hb;exact⟨e,hb⟩
 refine⟨h.sz,h.df,h.dfo,λt x hx=>h.tmp t x oH,λj c hc=>?_,λj k b hjk hb hb2=>h.dis j k b hjk (hblk j b hb).2 (hblk k b hb2).2,λj b hb=>h.new j b (hblk j b hb).2,h.imm,h.ext,h.old,λk c hk j hj=>?_,h.glb⟩
 .by_cases e:j=i
  .subst e;rw [heq] at hc;cases hc;trivial
  .rw [hne j e] at hc;exact h.mem j c hc
 .by_cases e:2*j+1=2*i+1
  .rw [zaa,if_pos e.symm];simp
  .rw [zaa,if_neg (Ne.symm e)];rw [zaa] at hk;split at hk
   .cases hk;cases hj
   .exact h.scp k c hk j hj
theorem zq5{wd:Nat}:∀{rows:List (List AV)} {n:Nat},(∀r∈rows,r.length=wd)->(rows.take n).flatten=rows.flatten.take (n*wd)
 | [],n,_=>od
 | r::rows,0,_=>od
 | r::rows,n+1,hw=>by have hr:=hw r od;have ih:=zq5 (n:=n) (rows:=rows) λr hr=>hw r (by simp [hr]);rw [kdm,kcm,kcm,ih,List.take_append,hr,show(n+1)*wd-wd=n*wd by rw [kct];omega,kb4 (l:=r) (by rw [hr,kct];omega)]
theorem Rel.cut{G:zbf}{N:Nat}{w0:zfq}{s:AS}{a:Act}{w:World}{E:Env}{i j wd n:Nat}{T:TypeId}{rows:List (List AV)}(h:Rel G N w0 s a w E)(hl:zac s (2*i+1)=some (.buf wd T rows))(hj:zac s (2*j+1)=none)(hn:n<=rows.length)(hp:0<rows.length) :
  ∃v:Value,(∀u,Rep E w (.osl wd i 0 n) u->u=v)/\v.oneCell'=true/\Rel G N w0 ((2*j+1,.buf wd T (rows.take n))::(2*i+1,.dead)::s) a w (E.bufAt j v):=by
 have hij:i≠j:=λe=>by rw [e,hj] at hl;cases hl
 obtain⟨h1,vs,⟨h2,h3⟩,h4⟩:=h.mem i _ hl
 rcases h3 with ⟨_,h5⟩|⟨g,cap,cur,h3,h5,h6,h7,h8,h9,h10⟩
 .omega
 have hbi:blk E i (zac s (2*i+1))=some g:=by rw [hl];simp [blk,h3,Value.ownBlock]
 obtain⟨n1,n2,n3⟩:=h.new i g hbi
 refine⟨.slice (some ⟨g,0,none⟩) n cap,λu hu=>?_,rfl,?_⟩
 .cases hu with
  | osl _ _ _ _ gg l c hg =>rw [h3] at hg;simp only [Value.slice.injEq,kap,Addr.mk.injEq] at hg;obtain⟨⟨rfl,_,_⟩,rfl,rfl⟩:=hg;simp
 .have hfl:=zq5 (n:=n) λr hr=>(h1 r hr).1;have hle:n*wd<=rows.length*wd:=kcy _ hn;have hk:=h.killM (i:=i);refine hk.newbuf (i:=j) (wd:=wd) (T:=T) (rows:=rows.take n) (vs:=vs.take (n*wd)) (v:=.slice (some ⟨g,0,none⟩) n cap) (by rw [zaa,if_neg (oc)];exact hj) ⟨?_,.inr ⟨g,cap,cur,?_,h5,h6,?_,h8,h9,?_⟩⟩ (λb hb=>?_) ?_ λrow hrow=>h1 row (kbz hrow)
  .rw [kcj,h2,kcj,kcd hn,kcd hle]
  .rw [kcj,kcd hn]
  .rw [kcj,kcd hn];omega
  .rw [kcj,kcd hn,<-h10,List.take_take,kcd hle]
  .have:b=g:=by simpa [Value.ownBlock] using hb.symm
   subst this;refine⟨n1,n2,λq hq=>?_⟩;by_cases e:q=i
   .subst e;rw [zaa,if_pos rfl] at hq;cases hq
   .rw [zaa,if_neg oc] at hq;exact h.dis i q b (Ne.symm e) hbi hq
  .rw [hfl];exact h4.take _
theorem z9i{G:zbf}{N:Nat}{s:AS}{T:TypeId}{rows:List (List AV)}{wd n:Nat}(t i j:Nat)(hl:zac s (2*i+1)=some (.buf wd T rows))(hj:zac s (2*j+1)=none)(ht:zac s (2*t)=some (.av (.osl wd i 0 n)))(hN:t<N)(hn:n<=rows.length)(hp:0<rows.length) :
  Sub G N s ((2*t,.av (.own j))::(2*j+1,.buf wd T (rows.take n))::(2*i+1,.dead)::s):=λw0 a w E hr=>by
 obtain⟨v,h1,h2,h3⟩:=hr.cut hl hj hn hp
 have hv:=h1 _ (hr.tmp _ _ ht)
 have h4:=h3.put hN (x:=.own j) (v:=a.tmps.getD t undef) (by
  rw [hv];have:=Rep.own (E:=E.bufAt j v) (w:=w) j (by simp [Env.bufAt,h2]);simpa [Env.bufAt] using this) (λk hk=>by simp [AV.ids] at hk;subst hk;rw [zaa,if_pos rfl];simp)
 rw [zvs] at h4
 exact⟨_,h4⟩
theorem z4b{G:zbf}{N:Nat}{s:AS}{T Tb:TypeId}{xs:List AV}{rows:List (List AV)}{wd n:Nat}(m c i j:Nat)(hm:zac s (2*m+1)=some (.cells T xs))(hl:zac s (2*i+1)=some (.buf wd Tb rows))(hj:zac s (2*j+1)=none)(hc:xs[c]?=some (.osl wd i 0 n))(hn:n<=rows.length)(hp:0<rows.length) :
  Sub G N s ((2*m+1,.cells T (xs.set c (.own j)))::(2*j+1,.buf wd Tb (rows.take n))::(2*i+1,.dead)::s):=λw0 a w E hr=>by
 have hmj:m≠j:=λe=>by rw [e,hj] at hm;cases hm
 have hmi:m≠i:=λe=>by rw [e,hl] at hm;cases hm
 obtain⟨v,g1,g2,h1⟩:=hr.cut hl hj hn hp
 have hm1:zac ((2*j+1,za7.buf wd Tb (rows.take n))::(2*i+1,.dead)::s) (2*m+1)=some (.cells T xs):=by rw [zaa,if_neg oc,zaa,if_neg oc];exact hm
 obtain⟨vs,h2,h3,h4⟩:=h1.mem m _ hm1
 obtain⟨vs0,k2,k3,_⟩:=hr.mem m _ hm
 have hvv:vs=vs0:=by have:(E.bufAt j v).mem m=E.mem m:=rfl;rw [this,k2] at h2;simpa using h2.symm
 subst hvv
 have hblk:blk (E.bufAt j v) m (zac ((2*j+1,za7.buf wd Tb (rows.take n))::(2*i+1,.dead)::s) (2*m+1))=some ((E.bufAt j v).mem m):=by rw [hm1];rfl
 obtain⟨u,hu,hru⟩:=k3.get hc
 have hun:=g1 u hru
 have hset:vs=vs.set c v:=by have:c<vs.length:=(kab.1 hu).1;have e:=kab.1 hu;rw [<-hun,<-e.2];exact(kc9 this).symm
 refine⟨_,h1.setmem (c:=.cells T (xs.set c (.own j))) ⟨vs,h2,?_,?_⟩ ?_ ?_⟩
 .rw [hset];refine h3.set ?_;have:=Rep.own (E:=E.bufAt j v) (w:=w) j (by simp [Env.bufAt,g2]);simpa [Env.bufAt] using this
 .intro x hx;rcases kbh hx with h|h
  .exact h4 x h
  .subst h;rfl
 .intro b hb;have hbm:(E.bufAt j v).mem m=b:=by simpa [blk] using hb
  obtain⟨p,q,r⟩:=h1.new m b (by rw [hblk,hbm]);exact⟨p,q,r,λk hk=>h1.dis m k b (λe=>hk e.symm) (by rw [hblk,hbm])⟩
 .intro k hk;simp only [za7.ids] at hk;obtain⟨x,hx,hxk⟩:=zal.1 hk;rcases kbh hx with h|h
  .exact .inl (h1.scp _ _ hm1 k oL)
  .subst h;simp [AV.ids] at hxk;subst hxk;exact .inl (by rw [zaa,if_pos rfl];simp)
section
variable{C:Cx}{N:Nat}{s:AS}{d:Nat}{t ty e:TypeId}{pos:String}{af:Array Edge}{g:Option (Nat×Bool)}{x y:Operand}{i:Nat}{T:TypeId}{ti:TI}
theorem yb1{off m:Nat}{cs:List AV}{ws:List Int}(hd:d<N)(hx:ev s x=some (.psl i off m))(hl:zac s (2*i+1)=some (.cells T cs))(hy:ev s y=some (.sl 1 (ws.map λz=>[AV.val (.int .i64 z)])))(ht:(C.ti t).map (·.sh)=some (.sl e))(he:C.ti e=some ti)(hs:Nat.beq ti.size 1=true)(hf:Nat.ble (off+m) cs.length=true)(hm:ws.length<=m)(hne:1<=ws.length) :
  AOp C N ⟨some d,.call { callee:=.builtin .copy,args:=#[x,y],argTypes:=#[t,t] },ty,pos,af,g⟩ (rds x++rds y++[2*i+1]) s [(2*d,.av (.val (.int .i64 (ws.length:Int)))),(2*i+1,.cells T (spl cs off (ws.map λz=>AV.val (.int .i64 z))))]:=by
 have hf:=kah hf
 have:=z3i (C:=C) (N:=N) (s:=s) (ty:=ty) (pos:=pos) (af:=af) (g:=g) (ys:=ws.map λz=>AV.val (.int .i64 z)) hd hx hl (by rw [hy,List.map_map];rfl) ht he hs (kcu (oa hm)) (kcu oy) (kcu (oa hne))
 simpa using this
theorem yb2{off m:Nat}{cs:List AV}(hd:d<N)(hx:ev s x=some (.psl i off m))(hl:zac s (2*i+1)=some (.cells T cs))(hy:ev s y=some (.sl 1 []))(ht:(C.ti t).map (·.sh)=some (.sl e))(he:C.ti e=some ti)(hs:Nat.beq ti.size 1=true)(hf:Nat.ble off cs.length=true) :
  AOp C N ⟨some d,.call { callee:=.builtin .copy,args:=#[x,y],argTypes:=#[t,t] },ty,pos,af,g⟩ (rds x++rds y++[2*i+1]) s [(2*d,.av (.val (.int .i64 0)))] :=
 zau hd λw0 E s' a w hR hr=>by
  have hs:=kaj hs;have hf:=kah hf;have hx':=zat hR (λ_ h=>by simp [h]) hx;have hy':=zat hR (λ_ h=>by simp [h]) hy;have hl':zac s' (2*i+1)=some (.cells T cs):=(hR _ od).trans hl;obtain⟨vs,h3,h4,h5⟩:=hr.mem i _ hl';have h6:=hr.ev hx';have h7:=hr.ev hy';generalize hex:a.eval x=u at h6;generalize hey:a.eval y=v at h7;cases htt:C.ti t with
  | none=>rw [htt] at ht;cases ht
  | some tj =>
    rw [htt] at ht;have hu:=Cx.under_sl htt (oa ht);have hinfo:(C.P.info? e).map (·.size)=some 1:=by obtain⟨_,_,jj,zz,g1,g2,g3,g4,g5,g6⟩:=Cx.ti_all he;rw [g1];simp [g4,hs]
    have hcl:=h4.1;cases h6 with
    | psl =>
      generalize hrows:([]:List (List AV))=rws at h7;refine⟨goInt 0,?_,.val _,by simp [AV.ids]⟩;cases h7 with
      | nil =>have hrun:=run_copy_nil (P:=C.P) w t t ty e ⟨E.mem i,off,none⟩ m m hu (by cases hq:C.P.info? e with|none=>rw [hq] at hinfo;cases hinfo|some j=>rfl);simp [execOp,resolve,invoke,builtin,hex,hey,hrun]
      | sl _ _ b o c val hb hw hc h =>
        subst hrows;have hrun:=run_copy_row C.P w t t ty e (E.mem i) off m m ⟨b,o,none⟩ 0 c vs.toArray T [] hu hinfo h3 od (λj v hv=>by cases hv) oy (λv hv=>by cases hv);have hself:w.setRow (E.mem i) (vs.toArray.toList.take off++[]++vs.toArray.toList.drop (off+([]:List Value).length)).toArray=w:=by simp only [kda,kbv,kb1,kd9];exact setRow_self w _ _ _ (0,0) h3
        rw [hself] at hrun;simp [execOp,resolve,invoke,builtin,hex,hey,hrun]
end
end Go.Ab
namespace Go.Ab.J
open Go Go.RowKit Go.Kp
open Go.Kp (FSt jdgF OpsR)
section
variable{C:Cx}{N:Nat}{s:AS}{k k2:Nat}{c c2:za7}{o:Oper}{ops rest:List Oper}{dr:Bool}{K:AS->Prop}{acc:List (List Nat×List Nat)}{R Gk:List Nat}
theorem yfa{d:Nat}{t ty:TypeId}{pos:String}{af:Array Edge}{g:Option (Nat×Bool)}{x y:Operand}{kk:IntKind}{q:Int}{z:ByteArray}{b:UInt8}(hd:d<N)(hx:ev s x=some (.val (.string z)))(hy:ev s y=some (.val (.int kk q)))(hu:C.P.underlying t=some .string)(h0:0<=q)(hb:z[q.toNat]?=some b) :
  AOp C N ⟨some d,.index t x y,ty,pos,af,g⟩ (rds x++rds y) s [(2*d,.av (.val (.int .u8 (b.toNat:Int))))] :=
 zb2 hd hx hy λρ w e1 e2=>by simp [execOp,e1,e2,Instr.index,asIntOf,run_underlying hu,h0,hb]
theorem gY(next:ADr C N ops dr K rest ((Gk++R,[k])::acc) ((k,c)::s))(hg:Gd ops o s Gk:=by first|exact gdN rfl|exact gdT rfl rfl rfl)
 (h:AOp C N o R s [(k,c)]/\AFt C o R s:=by(first
   | exact⟨ye1 oe rfl rfl,ydz rfl rfl rfl⟩
   | exact⟨ye8 oe rfl rfl,yd0 rfl rfl⟩
   | exact⟨z61 oe rfl rfl rfl rfl oB,zkj rfl⟩
   | exact⟨yey oe rfl rfl rfl rfl rfl rfl rfl oB,ydy rfl rfl rfl rfl⟩
   | exact⟨yez oe rfl rfl rfl rfl rfl rfl rfl oB oB,ydy rfl rfl rfl rfl⟩
   | exact⟨a_slP oe rfl rfl rfl,ydx rfl rfl rfl⟩
   | exact⟨a_slE oe rfl rfl rfl rfl rfl rfl oB rfl rfl,ydx rfl rfl rfl⟩
   | exact⟨z63 rfl rfl rfl rfl rfl rfl rfl oB,ya3 rfl rfl rfl⟩
   | exact⟨yfa oe rfl rfl ot oe rfl,zuk⟩
   | exact⟨z3j oe rfl rfl rfl rfl,zsj rfl rfl rfl rfl⟩
   | exact⟨yb2 oe rfl rfl rfl rfl rfl rfl rfl,zm3 rfl rfl rfl rfl rfl⟩
   | exact⟨ybz oe rfl rfl rfl (by first|exact rfl|assumption),z1z rfl rfl rfl⟩)):ADr C N ops dr K (o::rest) acc s:=⟨_,[(k,c)],znq hg (zax h.1 h.2),next⟩
theorem gY2(next:ADr C N ops dr K rest ((Gk++R,[k,k2])::acc) ((k,c)::(k2,c2)::s))(hg:Gd ops o s Gk:=by first|exact gdN rfl|exact gdT rfl rfl rfl)
 (h:AOp C N o R s [(k,c),(k2,c2)]/\AFt C o R s:=by(first
   | exact⟨z3i oe rfl rfl rfl rfl rfl rfl rfl rfl rfl,zm3 rfl rfl rfl rfl rfl⟩
   | exact⟨yb1 oe rfl rfl rfl rfl rfl rfl rfl oM oM,zm3 rfl rfl rfl rfl rfl⟩
   | exact⟨a_mks oe rfl rfl rfl rfl rfl rfl oB ot rfl,f_mks⟩)):ADr C N ops dr K (o::rest) acc s:=⟨_,[(k,c),(k2,c2)],znq hg (zax h.1 h.2),next⟩
end
theorem sy{P G:Prop}(n:P)(h:Wr P->G:=by
 (intro n
  first
  | ((with_reducible apply ydl);first|((with_reducible apply kC);first|exact gC n.p|exact gF n.p)|((fail_if_success with_reducible apply kC);first|exact gF n.p|exact g1 n.p|exact g2 n.p|exact g3 n.p|exact gE n.p|exact gN n.p|exact gS n.p|exact gY n.p|exact gY2 n.p))
  | ((with_reducible apply k_aw);first|exact wR n.p|exact wD n.p|exact wT n.p|exact wF n.p|exact wN n.p|exact wC n.p|exact zuq n.p|exact zur n.p|exact z2q n.p)
  | (with_reducible exact zlw n.p)|(with_reducible exact zvd n.p)|(with_reducible exact zq4 n.p))):G:=h ⟨n⟩
theorem z8j{C:Cx}{r:Option Nat}{N:Nat}{c:Code}{Q:Exit->AS->Prop}{s:AS}(h:AW C r N c (λe s=>∃s',Sub C.G N s s'/\Q e s') s):AW C r N c Q s:=λPost F0 σ E a w fn Qr hr hQ =>
 h Post F0 σ E a w fn Qr hr λe s' σ' a' w' E' h1 h2 h3=>by obtain⟨s2,hs,hq⟩:=h1;obtain⟨E2,h4⟩:=hs _ a' w' E' h2.rel;exact hQ e s2 σ' a' w' E2 hq (h2.sub h4) h3
theorem zcz{G:zbf}{N:Nat}{s:AS}:Sub G N s s:=λ_ _ _ E h=>⟨E,h⟩
structure EndM(C:Cx)(N:Nat)(rs:List ResultVar)(args:List AV)(r:AV)(m':List (Nat×za7))(pins:List (Nat×Nat))(Q:Exit->AS->Prop):Prop where
 go:∀e s s',Sub C.G N s s'->(e=.normal\/e=.ret)->zn6 s' rs=some r->z0u s' m'->(∀p∈pins,zac s' (2*p.2)=(args[p.2]?).map .av)->Q e s
structure EndF(C:Cx)(N:Nat)(rs:List ResultVar)(r:AV)(Q:Exit->AS->Prop):Prop where
 go:∀e s s',Sub C.G N s s'->(e=.normal\/e=.ret)->zck C s' rs=some r->Q e s
theorem zeu {C : Cx} {f : FuncId} {fn : Func} {c : Code} {args : List AV} {m m' : List (Nat × za7)} {r : AV} {U : List Nat} (pins : List (Nat × Nat)) {N : Nat} (hf : C.P.funcs[f]? = some fn) (hb : fn.body = some c) (hN : fn.ntmps = N) (hn : (fn.name == "runtime.NumGoroutine") = false) (hl : Nat.ble args.length N = true) (hok : okM args m c r m' U pins = true)
  (h:∀Q:Exit->AS->Prop,EndM C N fn.results.toList args r m' pins Q->AW C none N c Q (zhk args 0++zfa m)):zu1 C f args m r m' U:=by
 subst hN
 exact ybt pins hf hb hn hl hok (z8j (h _ ⟨λe s s' h1 h2 h3 h4 h5=>⟨s',h1,h2,h3,zir h4,h5⟩⟩))
theorem zg1 {C : Cx} {f : FuncId} {fn : Func} {c : Code} {args : List AV} {r : AV} {N : Nat} (hf : C.P.funcs[f]? = some fn) (hb : fn.body = some c) (hN : fn.ntmps = N) (hn : (fn.name == "runtime.NumGoroutine") = false) (hl : Nat.ble args.length N = true) (hids : zbb args = [])
  (h:∀Q:Exit->AS->Prop,EndF C N fn.results.toList r Q->AW C none N c Q (zhk args 0)) (hr:r.ids=[]):AFn C f args r:=by
 subst hN
 exact z8m hf hb hn hl hids (z8j (h _ ⟨λe s s' h1 h2 h3=>⟨s',h1,h2,h3⟩⟩)) hr
theorem EndM.g1{C:Cx}{N:Nat}{rs:List ResultVar}{args:List AV}{r:AV}{m':List (Nat×za7)}{pp:Nat×Nat}{Q:Exit->AS->Prop}(hQ:EndM C N rs args r m' [pp] Q){e:Exit}{s:AS}(he:e=.normal\/e=.ret)(h1:zn6 s rs=some r)(h2:z0u s m')(h3:zac s (2*pp.2)=(args[pp.2]?).map .av):Q e s:=hQ.go _ _ _ zcz he h1 h2 λp hp=>by cases hp with|head=>exact h3|tail _ h=>cases h
end Go.Ab.J
namespace Go.Ab.J
open Go Go.Proofs Go.Kp
section
variable{G:zbf}{u:Nat->ByteArray}
def zvy(ws:List Int):List Int:=ws++List.replicate (6-ws.length) 0
def sgU(fx:List Int)(sg:List Bool):Nat->List Bool
 | 0=>[false,false,false,false,false,false]
 | n+1=>(sgU fx sg n).set (fx.getD n 0).toNat (sg.getD n false)
theorem ztl(fx:List Int)(sg:List Bool):∀n,(sgU fx sg n).length=6
 | 0=>rfl
 | n+1=>by rw [sgU,kcz];exact ztl fx sg n
def z0e(n:Int):Bool:=!decide (0<=n/\n<=999)
def zcp(most:Int)(ss:List Slip)(ms:List SumR)(ws:List Int)(sg:List Bool):zd6×Int :=
 if zak most ss ms≠0 then (([],[]),zak most ss ms) else if ws.length≠ss.length then (([],[]),2) else if ws.any z0e then (([],[]),1)
 else if sg.length≠(zae ss ss.length).length then (([],[]),2) else ((zvy ws,sgU (zae ss ss.length) sg (zae ss ss.length).length),0)
theorem z0y(l:List Bool)(h:l.length=6):∃x0 x1 x2 x3 x4 x5,l=[x0,x1,x2,x3,x4,x5]:=by
 match l,h with
 | [x0,x1,x2,x3,x4,x5],_=>exact⟨x0,x1,x2,x3,x4,x5,rfl⟩
theorem zvv(w:List Int)(l:List Bool)(hl:l.length=6){i:Nat}(h:i<6)(b:Bool):(psL (w,l)).set (6+i*1) (vb b)=psL (w,l.set i b):=by obtain⟨x0,x1,x2,x3,x4,x5,rfl⟩:=z0y l hl;rcases lt6 h with rfl|rfl|rfl|rfl|rfl|rfl<;>rfl
theorem z92(ws:List Int)(h:ws.length<=6):spl (psL ([],[])) 0 (ws.map λz=>vi z)=psL (zvy ws,[false,false,false,false,false,false]):=by
 match ws,h with
 | [],_|[_],_|[_,_],_|[_,_,_],_|[_,_,_,_],_|[_,_,_,_,_],_|[_,_,_,_,_,_],_=>rfl
theorem z5y(ss:List Slip)(n:Nat):∀j∈zae ss n,0<=j/\j<(n:Int):=λj hj=>by simp only [zae,kav,kbw,ka3] at hj;obtain⟨k,⟨hk,_⟩,rfl⟩:=hj;omega
attribute [local irreducible] AOp AW ADr AFn ze1 AFt AOpJ
set_option maxRecDepth 20000
set_option maxHeartbeats 8000000
theorem cvr0{P G:Prop}(n:P)(h:Wr P->G:=by(intro n;first|((with_reducible apply kC);first|exact gB ⟨_,hf _ hzm,.mk rfl n.p⟩|exact gK n.p|exact gS n.p)|exact⟨_,hf _ hzm,n.p⟩|exact sk n.p|exact ap n.p)):G:=h ⟨n⟩
theorem zog(l:List Int)(f:FuncId)(p:Int->Bool)(hl:l.length<=100000)(hf:∀x∈l,AFn (cx G) f (vi x::[]) (vb (p x))):AFn (cx G) 161 [.sl 1 (il l),.val (.func (.func f) #[] #[])] (vi (z5i p l)):=by
 refine aby Tryz.func161 Tryz.ntmps161 λQ hQ=>?_;(repeat' (first|refine sx ?_|(refine aZ ?_;intros)|refine cvr0 ?_|fail));refine zbe l.length (λi=>∀j,j<i->p (l.getD j 0)=false) (λi=>[(2*0,.av (.sl 1 (il l))),(2*1,.av (.val (.func (.func f) #[] #[]))),(2*7,.av (vi ((il l).length:Int))),(2*8,.av (vi i))]) (λj hj=>oc) ?_ ?_
 .exact si
 .intro i hi hP;rcases kae i l.length with hlt|hge
  .obtain⟨z,hz⟩:∃z,l[i]?=some z:=⟨_,kaa hlt⟩;have hzr:(il l)[i]?=some [vi z]:=zcm hz;have hzl:i<(il l).length:=by simp;omega
   have hgz:l.getD i 0=z:=by simp [hz]
   have hzm:z∈l:=kag hz;have hd:decide ((i:Int)<((il l).length:Int))=true:=by simp;omega
   cases hx:p z with
   | true =>(repeat' (first|refine sx ?_|(refine aZ ?_;intros)|refine cvr0 ?_|fail));refine fe ?_;rw [zua hlt hP (by rw [hgz,hx])]
   | false =>
     (repeat' (first|refine sx ?_|(refine aZ ?_;intros)|refine cvr0 ?_|fail));refine⟨hlt,λj hj=>?_,?_⟩
     .rcases kae j i with h|h
      .exact hP j h
      .have:j=i:=oc
       subst this;rw [hgz];exact hx
     .exact si
  .have he:i=l.length:=oc
   subst he;have hd:decide ((l.length:Int)<((il l).length:Int))=false:=od
   (repeat' (first|refine sx ?_|(refine aZ ?_;intros)|refine cvr0 ?_|fail));refine fe ?_;rw [zmk hP]
theorem cvr1{P G:Prop}(n:P)(h:Wr P->G:=by(intro n;first|((with_reducible apply kC);first|exact gB ⟨_,zog _ _ _ hl hf,.mk rfl n.p⟩|exact gK n.p|exact gS n.p)|exact⟨_,zog _ _ _ hl hf,n.p⟩|exact sk n.p|exact ap n.p)):G:=h ⟨n⟩
theorem zi5(l:List Int)(f:FuncId)(p:Int->Bool)(hl:l.length<=100000)(hf:∀x∈l,AFn (cx G) f [vi x] (vb (p x))):AFn (cx G) 123 [.sl 1 (il l),.val (.func (.func f) #[] #[])] (vb (l.any p)):=by refine aby Tryz.func123 Tryz.ntmps123 λQ hQ=>?_;(repeat' (first|refine sx ?_|(refine aZ ?_;intros)|refine cvr1 ?_|fail));refine fe ?_;rw [z1c]
theorem cvr2{P G:Prop}(n:P)(h:Wr P->G:=by(intro n;first|((with_reducible apply kC);first|exact gB ⟨_,zdp _ _ _,.mk rfl n.p⟩|exact gK n.p|exact gS n.p)|exact⟨_,zdp _ _ _,n.p⟩|exact sk n.p|exact ap n.p)):G:=h ⟨n⟩
theorem zz9(n:Int):AFn (cx G) 151 [vi n] (vb (z0e n)):=by refine aby Tryz.func151 Tryz.ntmps151 λQ hQ=>?_;(repeat' (first|refine sx ?_|(refine aZ ?_;intros)|refine cvr2 ?_|fail));refine fe ?_;rfl
theorem cvr3{P G:Prop}(n:P)(h:Wr P->G:=by(intro n;first|((with_reducible apply kC);first|exact gB ⟨_,zbh _ _ _ hn hm,.mk rfl n.p⟩|exact gB ⟨_,zp7 _ _ _ hn,.mk rfl n.p⟩|exact gB ⟨_,zi5 _ _ z0e hwl λx _=>zz9 x,.mk rfl n.p⟩|exact gK n.p|exact gS n.p)|exact⟨_,zbh _ _ _ hn hm,n.p⟩|exact⟨_,zp7 _ _ _ hn,n.p⟩|exact⟨_,zi5 _ _ z0e hwl λx _=>zz9 x,n.p⟩|exact sk n.p|exact ap n.p)):G:=h ⟨n⟩
theorem yo8{G:Prop}(h:G:=by((repeat' (first|refine sy ?_|(refine aZ ?_;intros)|refine cvr3 ?_|fail));refine fe ?_;rfl)):G:=h
theorem evr1{G:Prop}(h:G:=by((repeat' (first|refine sy ?_|(refine aZ ?_;intros)|refine cvr3 ?_|fail));refine⟨hlt,?_⟩;exact si)):G:=h
theorem z7s(most:Int)(ss:List Slip)(ms:List SumR)(ws:List Int)(sg:List Bool)(hn:ss.length<=20)(hm:ms.length<=20)(hwl:ws.length<=100000) :
  AFn (cx (zch u)) 82 [bk most ss ms,.sl 1 (il ws),.sl 1 (bl sg)] (.tup [psA (zcp most ss ms ws sg).1,vi (zcp most ss ms ws sg).2]):=by
 refine aby Tryz.func82 Tryz.ntmps82 λQ hQ=>?_
 by_cases hc:zak most ss ms=0
 .have hdc:decide (zak most ss ms=0)=true:=oa hc
  have hg:=(za2 most ss ms).1 hc;by_cases hw:ws.length=ss.length
  .have hdw:decide (((il ws).length:Int)=((ss.map Slip.row).length:Int))=true:=by simp [hw]
   by_cases ho:ws.any z0e=true
   .have hF:zcp most ss ms ws sg=(([],[]),1):=by rw [zcp,if_neg (by simp [hc]),if_neg (by simp [hw]),if_pos ho]
    rw [hF] at hQ;exact yo8
   .have ho':ws.any z0e=false:=oa ho
    by_cases hs:sg.length=(zae ss ss.length).length
    .have hds:decide (((bl sg).length:Int)=((il (zae ss ss.length)).length:Int))=true:=by simp [hs]
     have hF:zcp most ss ms ws sg=((zvy ws,sgU (zae ss ss.length) sg (zae ss ss.length).length),0):=by rw [zcp,if_neg (by simp [hc]),if_neg (by simp [hw]),if_neg (by simp [ho']),if_neg (by simp [hs])]
     rw [hF] at hQ;have h6:ws.length<=6:=by have:=hg.nss;omega
     have hcp:=z92 ws h6;have hfl:=zfi ss ss.length;have hz:∀k,k<(zae ss ss.length).length->∃f:Nat,f<6/\(zae ss ss.length)[k]?=some (f:Int):=λk hk=>by obtain⟨j,hj⟩:∃j,(zae ss ss.length)[k]?=some j:=⟨_,kaa hk⟩;obtain⟨h1,h2⟩:=z5y ss ss.length j (kag hj);exact⟨j.toNat,oc,by rw [hj];congr 1;omega⟩
     rcases kbj ws.length with h0|h0
     .have:=kbs.1 h0;subst this;(repeat' (first|refine sy ?_|(refine aZ ?_;intros)|refine cvr3 ?_|fail))
      refine zam (zae ss ss.length).length (λk=>[(2*2,.av (.sl 1 (bl sg))),(2*45,.av (.sl 1 (il (zae ss ss.length)))),(2*46,.av (vi ((il (zae ss ss.length)).length:Int))),(2*47,.av (vi k)),(2*10,.av (.ptr 10 0)),(2*10+1,.cells 104 (psL (zvy [],sgU (zae ss ss.length) sg k))),(2*6,.av (.ptr 6 0)),(2*6+1,.cells 104 (psL ([],[])))]) ?_ ?_
      .exact si
      .intro k hk;rcases kae k (zae ss ss.length).length with hlt|hge
       .obtain⟨f,hf6,hf⟩:=hz k hlt;obtain⟨b,hb⟩:∃b,sg[k]?=some b:=⟨_,kaa oc⟩;have hrow:(il (zae ss ss.length))[k]?=some [vi f]:=by simp [hf]
        have hil:k<(il (zae ss ss.length)).length:=oa hlt
        have hbrow:(bl sg)[k]?=some [vb b]:=by simp [hb]
        have hbl:k<(bl sg).length:=by simp;omega
        have hd:decide ((k:Int)<((il (zae ss ss.length)).length:Int))=true:=by simp;omega
        have hsucc:psL (zvy [],sgU (zae ss ss.length) sg (k+1))=(psL (zvy [],sgU (zae ss ss.length) sg k)).set (6+f*1) (vb b):=by rw [zvv _ _ (ztl (zae ss ss.length) sg k) hf6,sgU];simp [hf,hb]
        have hxl:6+f*1<(psL (zvy [],sgU (zae ss ss.length) sg k)).length:=by show _<12;omega
        exact evr1
       .have he:k=(zae ss ss.length).length:=oc
        subst he;have hd:decide (((zae ss ss.length).length:Int)<((il (zae ss ss.length)).length:Int))=false:=od
        exact yo8
     .have h1:1<=ws.length:=h0;(repeat' (first|refine sy ?_|(refine aZ ?_;intros)|refine cvr3 ?_|fail))
      refine zam (zae ss ss.length).length (λk=>[(2*2,.av (.sl 1 (bl sg))),(2*45,.av (.sl 1 (il (zae ss ss.length)))),(2*46,.av (vi ((il (zae ss ss.length)).length:Int))),(2*47,.av (vi k)),(2*10,.av (.ptr 10 0)),(2*10+1,.cells 104 (psL (zvy ws,sgU (zae ss ss.length) sg k))),(2*6,.av (.ptr 6 0)),(2*6+1,.cells 104 (psL ([],[])))]) ?_ ?_
      ·(refine znv ?_ rfl;repeat' (first|exact zg3|(refine ze5 (by first|exact rfl|exact congrArg (λz=>some (za7.cells 104 z)) hcp) ?_)))
      .intro k hk;rcases kae k (zae ss ss.length).length with hlt|hge
       .obtain⟨f,hf6,hf⟩:=hz k hlt;obtain⟨b,hb⟩:∃b,sg[k]?=some b:=⟨_,kaa oc⟩;have hrow:(il (zae ss ss.length))[k]?=some [vi f]:=by simp [hf]
        have hil:k<(il (zae ss ss.length)).length:=oa hlt
        have hbrow:(bl sg)[k]?=some [vb b]:=by simp [hb]
        have hbl:k<(bl sg).length:=by simp;omega
        have hd:decide ((k:Int)<((il (zae ss ss.length)).length:Int))=true:=by simp;omega
        have hsucc:psL (zvy ws,sgU (zae ss ss.length) sg (k+1))=(psL (zvy ws,sgU (zae ss ss.length) sg k)).set (6+f*1) (vb b):=by rw [zvv _ _ (ztl (zae ss ss.length) sg k) hf6,sgU];simp [hf,hb]
        have hxl:6+f*1<(psL (zvy ws,sgU (zae ss ss.length) sg k)).length:=by show _<12;omega
        exact evr1
       .have he:k=(zae ss ss.length).length:=oc
        subst he;have hd:decide (((zae ss ss.length).length:Int)<((il (zae ss ss.length)).length:Int))=false:=od
        exact yo8
    .have hds:decide (((bl sg).length:Int)=((il (zae ss ss.length)).length:Int))=false:=by simp;omega
     have hF:zcp most ss ms ws sg=(([],[]),2):=by rw [zcp,if_neg (by simp [hc]),if_neg (by simp [hw]),if_neg (by simp [ho']),if_pos (oa hs)]
     rw [hF] at hQ;exact yo8
  .have hdw:decide (((il ws).length:Int)=((ss.map Slip.row).length:Int))=false:=by simp;omega
   have hF:zcp most ss ms ws sg=(([],[]),2):=by rw [zcp,if_neg (by simp [hc]),if_pos (oa hw)]
   rw [hF] at hQ;exact yo8
 .have hdc:decide (zak most ss ms=0)=false:=oa hc
  have hF:zcp most ss ms ws sg=(([],[]),zak most ss ms):=by rw [zcp,if_pos (oa hc)]
  rw [hF] at hQ;exact yo8
end
end Go.Ab.J
namespace Go.Ab.J
open Go Go.Proofs Go.Kp Go.ChangeShapes Go.WideShapes Go.ChangeAt Go.RowKit
theorem z1h{w:World}{g:Nat}{vs:List Value}(h0:vs≠[])(ho:∀v∈vs,v.oneCell'=true)(h:∀(j:Nat) v,vs[j]?=some v->w.cell? ⟨g,j,none⟩=some v) :
  zd0 w g/\(∀x∈vs.map AV.val,x.ids=[]/\x.atom=true)/\∃val:Nat->Value,∀(j:Nat) x,(vs.map AV.val)[j]?=some x->w.cell? ⟨g,j,none⟩=some (val j)/\Rep (zca (zd0 w)) w x (val j):=by
 refine⟨?_,λx hx=>?_,λj=>vs.getD j default,λj x hx=>?_⟩
 .cases vs with
  | nil=>exact absurd rfl h0
  | cons v vs=>exact zx6 (h 0 v rfl)
 .obtain⟨v,hv,rfl⟩:=kav.1 hx;exact⟨rfl,ho v hv⟩
 .rw [kaq] at hx;obtain⟨v,hv,rfl⟩:=kan.1 hx;have e:vs.getD j default=v:=by rw [kai,hv];rfl
  show _=some (vs.getD j default)/\Rep _ _ _ (vs.getD j default);rw [e];exact⟨h j v hv,.val v⟩
section
variable{H:Type}{enc:TypeId×Value->H}{w:World}{base:Nat}{sp:Nat->Bool}{held:Bool}
theorem ycu:Tryz.prog.underlying 9=some .string:=by kernel_rfl
theorem yek:Tryz.prog.cellsOf 9=1:=by kernel_rfl
theorem c_can:Tryz.prog.cellsOf 163=1:=by kernel_rfl
theorem yep:Tryz.prog.cellsOf 164=1:=by kernel_rfl
theorem zxn:Tryz.prog.underlying 163=some (.func #[31] #[4] false):=by kernel_rfl
theorem zq2:Tryz.prog.underlying 164=some (.func #[36,3] #[3] false):=by kernel_rfl
theorem u_ki:Tryz.prog.underlying 226=some (.struct (Tryz.prog.fieldsOf 226)):=by kernel_rfl
theorem u_su:Tryz.prog.underlying 166=some (.struct (Tryz.prog.fieldsOf 166)):=by kernel_rfl
theorem f_ki:(Tryz.prog.fieldsOf 226).toList.map (λf=>(f.type,f.offset))=[(9,0),(3,1),(163,2)]:=by kernel_rfl
theorem f_su:(Tryz.prog.fieldsOf 166).toList.map (λf=>(f.type,f.offset))=[(9,0),(3,1),(164,2)]:=by kernel_rfl
theorem ycx:Tryz.prog.underlying 227=some (.array 6 226):=by kernel_rfl
theorem ycs:Tryz.prog.underlying 167=some (.array 5 166):=by kernel_rfl
theorem c_ki:Tryz.prog.cellsOf 226=3:=by kernel_rfl
theorem c_su:Tryz.prog.cellsOf 166=3:=by kernel_rfl
theorem row3{P:Program}{T F:TypeId}{n:Nat}{cs:List Value}{s:List UInt8}{k:Int}{d:DataW H}{x:DataW H×List MemPlace}(hstr:P.underlying 9=some .string)(cstr:P.cellsOf 9=1)(hint:P.underlying 3=some (.int .i64))(cint:P.cellsOf 3=1)(cF:P.cellsOf F=1)
  (cT:P.cellsOf T=3) (hu:P.underlying T=some (.struct (P.fieldsOf T))) (hf:(P.fieldsOf T).toList.map (λf=>(f.type,f.offset))=[(9,0),(3,1),(F,2)]) (h:DataW.trod enc P w base sp held n T cs=some x) (hx:x.1=.agg [.lit (.string s),.lit (.int .i64 k),d]) :
  ∃z v m q,cs=[.string z,.int .i64 k,v]/\DataW.trod enc P w base sp held m F [v]=some (d,q):=by
 obtain⟨hl,xs,m,hxs,hlx,hel⟩:=zsc hf hu h
 obtain⟨y0,g0,h0⟩:=hel 0 _ rfl
 obtain⟨y1,g1,h1⟩:=hel 1 _ rfl
 obtain⟨y2,g2,h2⟩:=hel 2 _ rfl
 obtain⟨x0,x1,x2,rfl⟩:=len3 hlx
 rw [cT] at hl
 obtain⟨c0,c1,c2,rfl⟩:=len3 hl
 rw [hx] at hxs
 simp at hxs g0 g1 g2
 subst g0 g1 g2
 obtain⟨z,hz,_⟩:=DataW.trod_string hstr h0
 obtain⟨k',hk,hk2⟩:=zed hint cint h1
 simp only [cstr,List.drop_zero,kdm,kd5] at hz
 simp only [cF,List.drop_succ_cons,List.drop_zero,kdm,kd5] at h2
 simp at hz hk
 subst hz hk
 have:=hxs.2.1.trans hk2
 simp at this
 subst this
 exact⟨z,c2,m,x2.2,rfl,by rw [h2,hxs.2.2]⟩
theorem zk4{P:Program}{t:TypeId}{fuel:Nat}{ps rs:Array TypeId}{va:Bool}{v:Value}{q:List MemPlace}(ht:P.underlying t=some (.func ps rs va))(h:DataW.trod enc P w base sp held fuel t [v]=some (.nil,q)):v=.nilFunc:=by
 cases fuel with
 | zero=>simp [DataW.trod] at h
 | succ n=>cases v<;>simp [DataW.trod,ht] at h |-<;>(try (cases held<;>simp at h))
theorem zvg{P:Program}{t T F:TypeId}{N n:Nat}{cs:List Value}{ds:List (DataW H)}{p:List MemPlace}(hstr:P.underlying 9=some .string)(cstr:P.cellsOf 9=1)(hint:P.underlying 3=some (.int .i64))(cint:P.cellsOf 3=1)(cF:P.cellsOf F=1)
  (cT:P.cellsOf T=3) (hu:P.underlying T=some (.struct (P.fieldsOf T))) (hf:(P.fieldsOf T).toList.map (λf=>(f.type,f.offset))=[(9,0),(3,1),(F,2)]) (ht:P.underlying t=some (.array N T)) (h:DataW.trod enc P w base sp held n t cs=some (.agg ds,p)) :
  ∀(i:Nat) s k d,ds[i]?=some (.agg [.lit (.string s),.lit (.int .i64 k),d])->∃z v m q,cs[i*3]?=some (.string z)/\cs[i*3+1]?=some (.int .i64 k)/\cs[i*3+2]?=some v/\DataW.trod enc P w base sp held m F [v]=some (d,q):=by
 obtain⟨xs,m,_,hx,hl,hxl,hel⟩:=DataW.trod_array ht h
 intro i s k d hd
 simp only [Prod.mk.injEq,DataW.agg.injEq] at hx
 rw [hx.1,kaq] at hd
 obtain⟨y,hy,hy2⟩:=kan.1 hd
 have hi:i<N:=by rw [<-hxl];exact(kab.1 hy).1
 have hE:=hel i hi
 rw [hy,cT] at hE
 obtain⟨z,v,m2,q,hcs,h3⟩:=row3 hstr cstr hint cint cF cT hu hf hE hy2
 have g:∀j,j<3->cs[i*3+j]?=([.string z,.int .i64 k,v]:List Value)[j]?:=λj hj=>by rw [<-hcs,ka5,if_pos hj,kbb]
 exact⟨z,v,m2,q,g 0 oc,g 1 oc,g 2 oc,h3⟩
end
theorem g_ki : Tryz.prog.globalNamed "nosale/sales.slipKinds" = some 1 := by kernel_rfl
theorem g_su : Tryz.prog.globalNamed "nosale/sales.sumKinds" = some 0 := by kernel_rfl
theorem t_ki:(Tryz.prog.globals[1]?).map (·.type)=some 227:=by kernel_rfl
theorem t_su:(Tryz.prog.globals[0]?).map (·.type)=some 167:=by kernel_rfl
set_option maxRecDepth 20000 in
theorem zza {w : World} (h : laidMetH Tryz.prog [("nosale/sales.slipKinds", YtfgciihkmemdlaaGreatDoor.Rows.laid_nosale_sales_slipKinds), ("nosale/sales.sumKinds", YtfgciihkmemdlaaGreatDoor.Rows.laid_nosale_sales_sumKinds)] w) : ∃ u : Nat -> ByteArray, zb3 (zch u) (zca (zd0 w)) w := by
 obtain⟨g,t,cs,fuel,p,hg,ht,hv,hd⟩:=h.funcs (kdo ..);obtain rfl:=kaw (g_ki.symm.trans hg)
 obtain rfl:=kaw (t_ki.symm.trans ht);obtain⟨g',t',cs',fuel',p',hg',ht',hv',hd'⟩:=h.funcs (kdh _ (kdo ..));obtain rfl:=kaw (g_su.symm.trans hg')
 obtain rfl:=kaw (t_su.symm.trans ht')
 have e1:DataW.trod (funcToken Tryz.prog) Tryz.prog w 0 (λ_=>true) true fuel 227 cs.toList=some ((.agg [.agg [.lit (.string [115,111,108,100]),.lit (.int .i64 4),.nil],.agg [.lit (.string [99,114,101,100,105,116]),.lit (.int .i64 4),.nil],.agg [.lit (.string [103,105,118,101,110]),.lit (.int .i64 4),.nil],.agg [.lit (.string [98,97,99,107]),.lit (.int .i64 4),.held [110,111,115,97,108,101,47,115,97,108,101,115,46,105,115,71,111,111,100,115]],.agg [.lit (.string [112,97,105,100]),.lit (.int .i64 0),.nil],.agg [.lit (.string [102,105,120]),.lit (.int .i64 0),.held [110,111,115,97,108,101,47,115,97,108,101,115,46,115,108,105,112,75,105,110,100,115,36,49]]]),p):=hd
 have e2:DataW.trod (funcToken Tryz.prog) Tryz.prog w 0 (λ_=>true) true fuel' 167 cs'.toList=some ((.agg [.agg [.lit (.string [99,97,115,104]),.lit (.int .i64 0),.held [110,111,115,97,108,101,47,115,97,108,101,115,46,115,117,109,75,105,110,100,115,36,49]],.agg [.lit (.string [100,101,112,116]),.lit (.int .i64 4),.held [110,111,115,97,108,101,47,115,97,108,101,115,46,115,117,109,75,105,110,100,115,36,50]],.agg [.lit (.string [99,108,101,114,107]),.lit (.int .i64 3),.held [110,111,115,97,108,101,47,115,97,108,101,115,46,115,117,109,75,105,110,100,115,36,51]],.agg [.lit (.string [100,101,98,116]),.lit (.int .i64 0),.held [110,111,115,97,108,101,47,115,97,108,101,115,46,115,117,109,75,105,110,100,115,36,52]],.agg [.lit (.string [103,105,102,116,115]),.lit (.int .i64 0),.held [110,111,115,97,108,101,47,115,97,108,101,115,46,115,117,109,75,105,110,100,115,36,53]]]),p'):=hd'
 have T0:=zvg ycu yek zjd zqh c_can c_ki u_ki f_ki ycx e1;have T6:=zvg ycu yek zjd zqh yep c_su u_su f_su ycs e2;have C0:∀j,w.cell? ⟨1,j,none⟩=cs.toList[j]?:=λj=>by rw [World.var?_cell g_ki hv j];simp
 have C6:∀j,w.cell? ⟨0,j,none⟩=cs'.toList[j]?:=λj=>by rw [World.var?_cell g_su hv' j];simp
 have hl0:cs.toList.length=18:=by obtain⟨_,_,_,_,hl,_⟩:=DataW.trod_array ycx e1;exact hl.trans ot
 have hl6:cs'.toList.length=15:=by obtain⟨_,_,_,_,hl,_⟩:=DataW.trod_array ycs e2;exact hl.trans ot
 clear hd hd' e1 e2 hv hv' hg hg' ht ht';generalize cs.toList=l0 at *;generalize cs'.toList=l6 at *;obtain⟨z0,v0,m0,q0,a0,b0,c0,d0⟩:=T0 0 _ _ _ rfl;obtain rfl:=zk4 zxn d0
 obtain⟨z1,v1,m1,q1,a1,b1,c1,d1⟩:=T0 1 _ _ _ rfl;obtain rfl:=zk4 zxn d1
 obtain⟨z2,v2,m2,q2,a2,b2,c2,d2⟩:=T0 2 _ _ _ rfl;obtain rfl:=zk4 zxn d2
 obtain⟨z3,v3,m3,q3,a3,b3,c3,d3⟩:=T0 3 _ _ _ rfl;obtain rfl:=func_of_trod (f0:=217) zxn ot d3
 obtain⟨z4,v4,m4,q4,a4,b4,c4,d4⟩:=T0 4 _ _ _ rfl;obtain rfl:=zk4 zxn d4
 obtain⟨z5,v5,m5,q5,a5,b5,c5,d5⟩:=T0 5 _ _ _ rfl;obtain rfl:=func_of_trod (f0:=221) zxn ot d5
 obtain⟨z6,v6,m6,q6,a6,b6,c6,d6⟩:=T6 0 _ _ _ rfl;obtain rfl:=func_of_trod (f0:=214) zq2 ot d6
 obtain⟨z7,v7,m7,q7,a7,b7,c7,d7⟩:=T6 1 _ _ _ rfl;obtain rfl:=func_of_trod (f0:=216) zq2 ot d7
 obtain⟨z8,v8,m8,q8,a8,b8,c8,d8⟩:=T6 2 _ _ _ rfl;obtain rfl:=func_of_trod (f0:=218) zq2 ot d8
 obtain⟨z9,v9,m9,q9,a9,b9,c9,d9⟩:=T6 3 _ _ _ rfl;obtain rfl:=func_of_trod (f0:=219) zq2 ot d9
 obtain⟨z10,v10,m10,q10,a10,b10,c10,d10⟩:=T6 4 _ _ _ rfl;obtain rfl:=func_of_trod (f0:=220) zq2 ot d10
 have E0:l0=[.string z0,.int .i64 4,.nilFunc,.string z1,.int .i64 4,.nilFunc,.string z2,.int .i64 4,.nilFunc,.string z3,.int .i64 4,.func (.func 217) #[] #[],.string z4,.int .i64 0,.nilFunc,.string z5,.int .i64 0,.func (.func 221) #[] #[]]:=by
  refine kc0 λj=>?_;rcases kae j 18 with hj|hj
  .have:j=0\/j=1\/j=2\/j=3\/j=4\/j=5\/j=6\/j=7\/j=8\/j=9\/j=10\/j=11\/j=12\/j=13\/j=14\/j=15\/j=16\/j=17:=oc
   rcases this with rfl|rfl|rfl|rfl|rfl|rfl|rfl|rfl|rfl|rfl|rfl|rfl|rfl|rfl|rfl|rfl|rfl|rfl
   .exact a0
   .exact b0
   .exact c0
   .exact a1
   .exact b1
   .exact c1
   .exact a2
   .exact b2
   .exact c2
   .exact a3
   .exact b3
   .exact c3
   .exact a4
   .exact b4
   .exact c4
   .exact a5
   .exact b5
   .exact c5
  .rw [kay oc,kay (oa hj)]
 have E6:l6=[.string z6,.int .i64 0,.func (.func 214) #[] #[],.string z7,.int .i64 4,.func (.func 216) #[] #[],.string z8,.int .i64 3,.func (.func 218) #[] #[],.string z9,.int .i64 0,.func (.func 219) #[] #[],.string z10,.int .i64 0,.func (.func 220) #[] #[]]:=by
  refine kc0 λj=>?_;rcases kae j 15 with hj|hj
  .have:j=0\/j=1\/j=2\/j=3\/j=4\/j=5\/j=6\/j=7\/j=8\/j=9\/j=10\/j=11\/j=12\/j=13\/j=14:=oc
   rcases this with rfl|rfl|rfl|rfl|rfl|rfl|rfl|rfl|rfl|rfl|rfl|rfl|rfl|rfl|rfl
   .exact a6
   .exact b6
   .exact c6
   .exact a7
   .exact b7
   .exact c7
   .exact a8
   .exact b8
   .exact c8
   .exact a9
   .exact b9
   .exact c9
   .exact a10
   .exact b10
   .exact c10
  .rw [kay oc,kay (oa hj)]
 subst E0;subst E6;refine⟨λk=>[z0,z1,z2,z3,z4,z5,z6,z7,z8,z9,z10].getD k default,λp hp=>?_⟩;simp only [zch,kat,kb2,or_false] at hp;rcases hp with rfl|rfl
 .exact z1h (vs:=[.string z0,.int .i64 4,.nilFunc,.string z1,.int .i64 4,.nilFunc,.string z2,.int .i64 4,.nilFunc,.string z3,.int .i64 4,.func (.func 217) #[] #[],.string z4,.int .i64 0,.nilFunc,.string z5,.int .i64 0,.func (.func 221) #[] #[]]) od (by intro v hv;simp only [kat,kb2,or_false] at hv;rcases hv with rfl|rfl|rfl|rfl|rfl|rfl|rfl|rfl|rfl|rfl|rfl|rfl|rfl|rfl|rfl|rfl|rfl|rfl<;>rfl) (λj v hv=>by rw [C0,hv])
 .exact z1h (vs:=[.string z6,.int .i64 0,.func (.func 214) #[] #[],.string z7,.int .i64 4,.func (.func 216) #[] #[],.string z8,.int .i64 3,.func (.func 218) #[] #[],.string z9,.int .i64 0,.func (.func 219) #[] #[],.string z10,.int .i64 0,.func (.func 220) #[] #[]]) od (by intro v hv;simp only [kat,kb2,or_false] at hv;rcases hv with rfl|rfl|rfl|rfl|rfl|rfl|rfl|rfl|rfl|rfl|rfl|rfl|rfl|rfl|rfl<;>rfl) (λj v hv=>by rw [C6,hv])
end Go.Ab.J
