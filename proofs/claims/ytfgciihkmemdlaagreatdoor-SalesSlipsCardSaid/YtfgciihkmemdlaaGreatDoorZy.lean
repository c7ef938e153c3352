/- What all laws about sales rest on, beside any goroutines. Conditions: none. -/
import Derived.Test.YtfgciihkmemdlaaGreatDoorZt
import Derived.Test.YtfgciihkmemdlaaGreatDoorZx
namespace Go.Ab.J
open Go Go.Proofs Go.Kp
section
variable{G:zbf}{u:Nat->ByteArray}
attribute [local irreducible] AOp AW ADr AFn ze1 AFt AOpJ
set_option maxRecDepth 20000
set_option maxHeartbeats 8000000
theorem zqe(rows:List (List AV))(hp:Nat.ble 1 rows.length=true)(hl:rows.length<=100000):zu1 (cx G) 83 [.sl 1 rows] [] (.own 2000) [(2000,.buf 1 3 rows)] [2000]:=by
 refine zeu [] Tryz.func83 rfl Tryz.ntmps83 rfl rfl rfl λQ hQ=>?_;have h2:([]:List (List AV)).length+rows.length<=1000000000:=by simp;omega
 (repeat' (first|refine sy ?_|(refine aZ ?_;intros)|refine w0 ?_|fail));refine hQ.go _ _ [(2*2,.av (.own 2000)),(2*2000+1,.buf 1 3 rows)] (zbg (rn1 2000 7) ?_ rfl rfl) (.inr rfl) rfl ⟨rfl,trivial⟩ (λ_ h=>by cases h);exact sr
theorem z6g(rows:List (List AV))(hp:Nat.ble 1 rows.length=true)(hl:rows.length<=100000):zu1 (cx G) 47 [.sl 7 rows] [] (.own 2001) [(2001,.buf 7 36 rows)] [2001]:=by
 refine zeu [] Tryz.func47 rfl Tryz.ntmps47 rfl rfl rfl λQ hQ=>?_;have h2:([]:List (List AV)).length+rows.length<=1000000000:=by simp;omega
 (repeat' (first|refine sy ?_|(refine aZ ?_;intros)|refine w0 ?_|fail));refine hQ.go _ _ [(2*2,.av (.own 2001)),(2*2001+1,.buf 7 36 rows)] (zbg (rn1 2001 7) ?_ rfl rfl) (.inr rfl) rfl ⟨rfl,trivial⟩ (λ_ h=>by cases h);exact sr
theorem z6h(rows:List (List AV))(hp:Nat.ble 1 rows.length=true)(hl:rows.length<=100000):zu1 (cx G) 48 [.sl 5 rows] [] (.own 2002) [(2002,.buf 5 68 rows)] [2002]:=by
 refine zeu [] Tryz.func48 rfl Tryz.ntmps48 rfl rfl rfl λQ hQ=>?_;have h2:([]:List (List AV)).length+rows.length<=1000000000:=by simp;omega
 (repeat' (first|refine sy ?_|(refine aZ ?_;intros)|refine w0 ?_|fail));refine hQ.go _ _ [(2*2,.av (.own 2002)),(2*2002+1,.buf 5 68 rows)] (zbg (rn1 2002 7) ?_ rfl rfl) (.inr rfl) rfl ⟨rfl,trivial⟩ (λ_ h=>by cases h);exact sr
theorem cvm0{P G:Prop}(n:P)(h:Wr P->G:=by(intro n;first|((with_reducible apply kC);first|exact gB ⟨_,zpu _,.mk rfl n.p⟩|exact gK n.p|exact gS n.p)|exact⟨_,zpu _,n.p⟩|exact sk n.p|exact ap n.p)):G:=h ⟨n⟩
theorem z70(x y:Int):AFn (cx G) 178 [vi x,vi y] (vb (decide (x<y))):=by refine aby Tryz.func178 Tryz.ntmps178 λQ hQ=>?_;(repeat' (first|refine sx ?_|(refine aZ ?_;intros)|refine cvm0 ?_|fail));refine fe ?_;rfl
end
end Go.Ab.J
namespace Go.Ab
open Go Go.RowKit Go.Kp
namespace J
open Go.Kp (FSt jdgF WpR OpsR wpR_region opsR_nil opsR_cons)
theorem z0f{C:Cx}{N:Nat}{s:AS}{ι:Type}{o:Oper}{R:List Nat}{u:ι->AS}(h:∀w0 E s' a w,(∀r∈R,zac s' r=zac s r)->Rel C.G N w0 s' a w E->∃i,∀(K:Act->World->Prop) (Q:Exit->Act->World->Prop),(∀a' w' E',Rel C.G N w0 (u i++s') a' w' E'->K a' w')->o.wp C.P a w K Q)(hf:AFt C o R s)
  {Post:Value->World->Prop} {F0:FB} {σ:FSt} {E:Env} {s':AS} {a:Act} {w:World} (hR:∀r∈R,zac s' r=zac s r) (hr:FRel C.G N F0 s' σ a w E) (hnd:zd2 o=true) {r:Option Nat} {fn:FuncId} {ops:Array Oper} {j:Nat} {rest:List Nat} {Q:Exit->FSt->Act->World->Prop} (ho:ops[j]?=some o) (hw:Region.wanted o (yielded ops a.tmps)=true)
  (hK:∀i σ' v w' E',FRel C.G N F0 (u i++s') σ' (a.put o.dst v) w' E'->OpsR (jdgF C.P Post) r fn ops rest Q σ' (a.put o.dst v) w'):OpsR (jdgF C.P Post) r fn ops (j::rest) Q σ a w:=by
 refine opsR_cons (D:=jdgF C.P Post) ho hw (λc e=>by simp [zd2,e] at hnd) λw1 hs=>?_
 obtain⟨d,rfl⟩:=hs
 have hr1:=hr.drew d
 obtain⟨i,hi⟩:=h (reb F0.n (w.at d) E s') E s' a (w.at d) hR hr1.rel
 have hstep:=hi (λa' w'=>∃E',Rel C.G N (reb F0.n (w.at d) E s') (u i++s') a' w' E') (λ_ _ _=>False) λa' w' E' hr'=>⟨E',hr'⟩
 have hft:=hf N _ E s' a (w.at d) hR hr1.rel
 obtain⟨rs,new,h1,h2,h3⟩:=ft_run _ hft (w.at d) #[] hr1.nearA λb hb=>.inr (.inr hb)
 rw [kcf] at h1
 have hrun:(execOp a.eval o).run C.P (w.at d)=rs:=by rw [<-Sem.runT_fst _ _ _ #[]];exact congrArg Prod.fst h1
 have hev:(execOp a.eval o).events C.P (w.at d) #[]=new:=congrArg Prod.snd h1
 have hrun2:(execOp a.eval o).run (jdgF C.P Post).P (w.at d)=rs:=hrun
 rw [hrun2]
 have hfin:∀(v:Value) w',zqo (Ab.inA E s' (w.at d)) (w.at d) w' new->(∃E',Rel C.G N (reb F0.n (w.at d) E s') (u i++s') (a.put o.dst v) w' E')->∃s',(jdgF C.P Post).Ok σ (w.at d) w' (Conc.listed C.P fn a o (w.at d)) s'/\OpsR (jdgF C.P Post) r fn ops rest Q s' (a.put o.dst v) w':=by
  rintro v w' hran ⟨E',hr'⟩;refine⟨⟨σ.Gb,w'.heap.size⟩,⟨λ_ h=>h,kak hr.bd hran.size,λe he=>?_⟩,hK i _ v w' E' (hr1.ran hr' hran)⟩;have he2:e∈new:=by rw [<-hev];exact seen_sub he
  exact zjx (λb hb=>hr1.inA hb) (hran.evs e he2)
 unfold Oper.wp at hstep
 rw [hrun] at hstep
 cases rs with
 | halt x w'=>exact(show False by cases x<;>exact hstep).elim
 | ok nx w' =>
   rcases(show yfj nx from h3) with ⟨v,rfl⟩|rfl
   .exact hfin v w' h2 hstep
   .exact hfin undef w' h2 hstep
section
variable{C:Cx}{N:Nat}{s:AS}{d:Nat}{ty t t':TypeId}{pos:String}{af:Array Edge}{x y:Operand}{wd:Nat}
abbrev eqO(d:Nat)(t t' ty:TypeId)(pos:String)(af:Array Edge)(x y:Operand):Oper:=⟨some d,.binOp .eql t x y t',ty,pos,af,none⟩
theorem yb0(hd:d<N)(hx:ev s x=some (.sl wd []))(hy:ev s y=some (.val (.slice none 0 0)))(hu:C.isl t=true):∀w0 E s' a w,(∀r∈rds x++rds y,zac s' r=zac s r)->Rel C.G N w0 s' a w E->∃b,∀(K:Act->World->Prop) (Q:Exit->Act->World->Prop),(∀a' w' E',Rel C.G N w0 ([(2*d,.av (.val (.bool b)))]++s') a' w' E'->K a' w')->(eqO d t t' ty pos af x y).wp C.P a w K Q:=λw0 E s' a w hR hr=>by
 have h1:=hr.ev (zat hR (λ_ h=>by simp [h]) hx);have he2:=(hr.ev (zat hR (λ_ h=>by simp [h]) hy)).val_eq;obtain⟨e,hu⟩:=Cx.isl_of hu;have key:∃b,(execOp a.eval (eqO d t t' ty pos af x y)).run C.P w=.ok (.value (.bool b)) w:=by
  generalize he:a.eval x=v at h1;generalize hrows:([]:List (List AV))=rows at h1;cases h1 with
  | nil =>
    have hq:∀dd,(Op.equalIn (dd+1) t (.slice none 0 0) (.slice none 0 0)).run C.P w=.ok true w:=λdd=>by rw [Op.equalIn];simp [run_underlying hu,go_sem]
    refine⟨true,?_⟩;have:=hq 9999;simp [execOp,he,he2,eqGuard,binOp,Op.equal,Op.maxDepth] at this |-;simp [this]
  | sl _ _ b o c val hb hw hc h =>
    subst hrows;have hq:∀dd,(Op.equalIn (dd+1) t (.slice (some ⟨b,o,none⟩) 0 c) (.slice none 0 0)).run C.P w=.ok false w:=λdd=>by rw [Op.equalIn];simp [run_underlying hu,go_sem]
    refine⟨false,?_⟩;have:=hq 9999;simp [execOp,he,he2,eqGuard,binOp,Op.equal,Op.maxDepth] at this |-;simp [this]
 obtain⟨b,hb⟩:=key;refine⟨b,λK Q hK=>?_⟩;unfold Oper.wp;rw [hb];exact hK _ _ E (hr.put hd (.val _) ox)
theorem zzh(l:List Nat):zly l l=true:=kar.2 λx hx=>kaz.2 ⟨x,hx,Nat.beq_refl x⟩
structure z3s(C:Cx)(N d:Nat)(t:TypeId)(x y:Operand)(wd:Nat)(Q:Exit->AS->Prop)(s:AS):Prop where
 next:∀b,Q .normal ((2*d,.av (.val (.bool b)))::s)
 hd:d<N:=by decide
 hx:ev s x=some (.sl wd []):=by exact rfl
 hy:ev s y=some (.val (.slice none 0 0)):=by exact rfl
 hu:C.isl t=true:=by exact rfl
theorem ybn{r:Option Nat}{id:Nat}{l:List Oper}{Q:Exit->AS->Prop}(h:ADr C N (l++[eqO d t t' ty pos af x y]) false (z3s C N d t x y wd Q) l [] s)(hnd:(l++[eqO d t t' ty pos af x y]).all zd2=true:=by exact rfl) :
  AW C r N (.region id (l++[eqO d t t' ty pos af x y]).toArray false) Q s:=λPost F0 σ E a w fn Qr hr hQ =>
 wpR_region (by
  have:=ADr.listR (Post:=Post) (r:=r) (fn:=fn) (Q:=Qr) (rest:=[l.length]) hnd (λs' σ' a' w' E' h1 h2 h3=>by
   have ho:(l++[eqO d t t' ty pos af x y]).toArray[l.length]?=some (eqO d t t' ty pos af x y):=od
   have hw:Region.wanted (eqO d t t' ty pos af x y) (yielded (l++[eqO d t t' ty pos af x y]).toArray a'.tmps)=true:=rfl;refine z0f (u:=λb=>[(2*d,.av (.val (.bool b)))]) (yb0 h1.hd h1.hx h1.hy h1.hu) (z1z h1.hx h1.hy (zzh _)) (λ_ _=>rfl) h2 rfl ho hw λb σ2 v w2 E2 h4=>?_
   exact opsR_nil (hQ _ _ σ2 _ w2 E2 (h1.next b) (oa h4) λt0 ht=>(h3.put (o:=eqO d t t' ty pos af x y) od v) t0 (by simpa [zno] using ht))) (n:=0) (λj o hj=>by rw [kb0,kam (kab.1 hj).1];exact hj) h hr (zqp.refl _ _)
  rw [kdi];simpa [List.range'_concat] using this)
theorem zd4{r:Option Nat}{id:Nat}{o1:Oper}{Q:Exit->AS->Prop}(h:ADr C N [o1,eqO d t t' ty pos af x y] false (z3s C N d t x y wd Q) [o1] [] s)(hnd:zd2 o1=true:=by exact rfl):AW C r N (.region id #[o1,eqO d t t' ty pos af x y] false) Q s :=
 ybn (l:=[o1]) h (show(zd2 o1&&(zd2 (eqO d t t' ty pos af x y)&&true))=true by rw [hnd];rfl)
end
end J
end Go.Ab
namespace Go.Ab.J
open Go Go.Proofs Go.Kp
variable{G:zbf}
attribute [local irreducible] AOp AW ADr AFn ze1 AFt AOpJ
set_option maxRecDepth 20000
set_option maxHeartbeats 8000000
theorem zsm:AFn (cx G) 83 [.sl 1 []] (.sl 1 []):=by
 refine zg1 Tryz.func83 rfl Tryz.ntmps83 rfl rfl rfl (λQ hQ=>?_) rfl;(repeat' (first|refine zd4 (wd:=1) ?_|refine sy ?_|(refine aZ ?_;intros)|refine w0 ?_|fail));refine z3s.mk (λb=>?_);cases b
 ·(repeat' (first|refine sy ?_|(refine aZ ?_;intros)|refine w0 ?_|fail));exact hQ.go _ _ _ zcz (.inr rfl) rfl
 ·(repeat' (first|refine sy ?_|(refine aZ ?_;intros)|refine w0 ?_|fail));exact hQ.go _ _ _ (zbd 2 3000 1 3 rfl rfl) (.inr rfl) rfl
end Go.Ab.J
namespace Go.Ab.J
open Go Go.RowKit Go.Kp
section
variable{C:Cx}{N:Nat}{s:AS}{d:Nat}{ty:TypeId}{pos:String}{af:Array Edge}{x:Operand}{xs:Array Operand}{ts:Array TypeId}{f:FuncId}{p q ys:List AV}{z y:AV}{m m':List (Nat×za7)}{U:List Nat}
theorem z6o{r:Option Nat}{id:Nat}{o1:Oper}{Q:Exit->AS->Prop}(h:ADr C N [o1,zj6 d ty pos af x xs ts] false (z3r C N d x xs f p q ys z y m m' U Q) [o1] [] s)(hnd:zd2 o1=true:=by exact rfl):AW C r N (.region id #[o1,zj6 d ty pos af x xs ts] false) Q s :=
 ybm (l:=[o1]) (show(zd2 o1&&(zd2 (zj6 d ty pos af x xs ts)&&true))=true by rw [hnd];rfl) h
theorem zdn{G:zbf}{N:Nat}{s:AS}{T0:TypeId}{xs:List AV}(m c i wd:Nat)(T:TypeId)(hm:zac s (2*m+1)=some (.cells T0 xs))(hi:zac s (2*i+1)=none)(hc:xs[c]?=some (.val (.slice none 0 0))) :
  Sub G N s ((2*m+1,.cells T0 (xs.set c (.own i)))::(2*i+1,.buf wd T [])::s):=λw0 a w E hr=>by
 have h1:=hr.newbuf (i:=i) (wd:=wd) (T:=T) (rows:=[]) (vs:=[]) (v:=.slice none 0 0) hi ⟨od,.inl ⟨rfl,rfl⟩⟩ (λb hb=>by cases hb) (yf1.nil _ _) od
 have hmi:m≠i:=λe=>by rw [e,hi] at hm;cases hm
 have hm1:zac ((2*i+1,za7.buf wd T [])::s) (2*m+1)=some (.cells T0 xs):=by rw [zaa,if_neg oc];exact hm
 obtain⟨vs,h2,h3,h4⟩:=h1.mem m _ hm1
 have hblk:blk (E.bufAt i (.slice none 0 0)) m (zac ((2*i+1,za7.buf wd T [])::s) (2*m+1))=some ((E.bufAt i (.slice none 0 0)).mem m):=by rw [hm1];rfl
 obtain⟨u,hu,hru⟩:=h3.get hc
 have hun:=hru.val_eq
 have hset:vs=vs.set c (.slice none 0 0):=by have:c<vs.length:=(kab.1 hu).1;have e:=kab.1 hu;rw [<-hun,<-e.2];exact(kc9 this).symm
 refine⟨_,h1.setmem (c:=.cells T0 (xs.set c (.own i))) ⟨vs,h2,?_,?_⟩ ?_ ?_⟩
 .rw [hset];refine h3.set ?_;have:=Rep.own (E:=E.bufAt i (.slice none 0 0)) (w:=w) i oE;simpa [Env.bufAt] using this
 .intro x hx;rcases kbh hx with h|h
  .exact h4 x h
  .subst h;rfl
 .intro b hb;have hbm:(E.bufAt i (.slice none 0 0)).mem m=b:=by simpa [blk] using hb
  obtain⟨p,q,r⟩:=h1.new m b (by rw [hblk,hbm]);exact⟨p,q,r,λk hk=>h1.dis m k b (λe=>hk e.symm) (by rw [hblk,hbm])⟩
 .intro k hk;simp only [za7.ids] at hk;obtain⟨x,hx,hxk⟩:=zal.1 hk;rcases kbh hx with h|h
  .exact .inl (h1.scp _ _ hm1 k oL)
  .subst h;simp [AV.ids] at hxk;subst hxk;exact .inl (by rw [zaa,if_pos rfl];simp)
theorem zlm{r:Option Nat}{id:Nat}{o1:Oper}{Q:Exit->AS->Prop}(s':AS)(hs:Sub C.G N s s')(h:ADr C N [o1,zj6 d ty pos af x xs ts] false (z3r C N d x xs f p q ys z y m m' U Q) [o1] [] s')(hnd:zd2 o1=true:=by exact rfl):AW C r N (.region id #[o1,zj6 d ty pos af x xs ts] false) Q s :=
 zbx hs (z6o h hnd)
end
end Go.Ab.J
namespace Go.Ab.J
open Go Go.Proofs Go.Kp
variable{G:zbf}{u:Nat->ByteArray}
attribute [local irreducible] AOp AW ADr AFn ze1 AFt AOpJ
set_option maxRecDepth 20000
set_option maxHeartbeats 8000000
theorem zbi(rows:List (List AV))(hl:rows.length<=100000):zu1 (cx G) 47 [.sl 7 rows] [] (.own 2001) [(2001,.buf 7 36 rows)] [2001]:=by
 cases rows with
 | cons r rows=>exact z6g _ rfl hl
 | nil =>
   refine zeu [] Tryz.func47 rfl Tryz.ntmps47 rfl rfl rfl λQ hQ=>?_;(repeat' (first|refine zd4 (wd:=7) ?_|refine sy ?_|(refine aZ ?_;intros)|refine w0 ?_|fail));refine z3s.mk (λb=>?_);cases b
   ·(repeat' (first|refine sy ?_|(refine aZ ?_;intros)|refine w0 ?_|fail));refine hQ.go _ _ [(2*2,.av (.own 2001)),(2*2001+1,.buf 7 36 [])] (zbg (rn1 2001 7) ?_ rfl rfl) (.inr rfl) rfl ⟨rfl,trivial⟩ (λ_ h=>by cases h);exact sr
   ·(repeat' (first|refine sy ?_|(refine aZ ?_;intros)|refine w0 ?_|fail));exact hQ.go _ _ _ (zbd 2 2001 7 36 rfl rfl) (.inr rfl) rfl ⟨rfl,trivial⟩ (λ_ h=>by cases h)
theorem zbj(rows:List (List AV))(hl:rows.length<=100000):zu1 (cx G) 48 [.sl 5 rows] [] (.own 2002) [(2002,.buf 5 68 rows)] [2002]:=by
 cases rows with
 | cons r rows=>exact z6h _ rfl hl
 | nil =>
   refine zeu [] Tryz.func48 rfl Tryz.ntmps48 rfl rfl rfl λQ hQ=>?_;(repeat' (first|refine zd4 (wd:=5) ?_|refine sy ?_|(refine aZ ?_;intros)|refine w0 ?_|fail));refine z3s.mk (λb=>?_);cases b
   ·(repeat' (first|refine sy ?_|(refine aZ ?_;intros)|refine w0 ?_|fail));refine hQ.go _ _ [(2*2,.av (.own 2002)),(2*2002+1,.buf 5 68 [])] (zbg (rn1 2002 7) ?_ rfl rfl) (.inr rfl) rfl ⟨rfl,trivial⟩ (λ_ h=>by cases h);exact sr
   ·(repeat' (first|refine sy ?_|(refine aZ ?_;intros)|refine w0 ?_|fail));exact hQ.go _ _ _ (zbd 2 2002 5 68 rfl rfl) (.inr rfl) rfl ⟨rfl,trivial⟩ (λ_ h=>by cases h)
abbrev bkM(i:Nat)(most:Int)(ss:List Slip)(ms:List SumR):List (Nat×za7):=[(i,.cells 25 [vi most,.own 2001,.own 2002]),(2001,.buf 7 36 (ss.map Slip.row)),(2002,.buf 5 68 (ms.map SumR.row))]
def ztd(most:Int)(ss:List Slip)(ms:List SumR):AV:=if zbt most ss ms 0=0 then bk most ss ms else bk 0 [] []
theorem cvu0{P G:Prop}(n:P)(h:Wr P->G:=by(intro n;first|((with_reducible apply kC);first|exact gB ⟨_,zgt hl,.mk rfl n.p⟩|exact gB ⟨_,zhr hn hm hl,.mk rfl n.p⟩|exact gK n.p|exact gS n.p)|exact⟨_,zgt hl,n.p⟩|exact⟨_,zhr hn hm hl,n.p⟩|exact sk n.p|exact ap n.p)):G:=h ⟨n⟩
theorem uvu0{P G:Prop}(n:P)(h:Wr P->G:=by(intro nq9;first|((with_reducible apply kC);first|exact gM (p:=[]) (ys:=[.sl 7 (ss.map Slip.row)]) (q:=[]) (zbi _ hn1) nq9.p|exact gM (p:=[]) (ys:=[.sl 5 (ms.map SumR.row)]) (q:=[]) (zbj _ hm1) nq9.p))):G:=h ⟨n⟩
theorem yc2{f:FuncId}{caps:List AV}(hcap:zbb caps=[]){most most':Int}{ss ss':List Slip}{ms ms':List SumR}(hn0:ss.length<=20)(hm0:ms.length<=20)(hn:ss'.length<=20)(hm:ms'.length<=20)
  (hf:zu1 (cx (zch u)) f ([]++[.ptr 6 0]++caps) (bkM 6 most ss ms) (.tup []) (bkM 6 most' ss' ms') [2001,2002]):AFn (cx (zch u)) 79 [bk most ss ms,.fn (.func f) [] caps] (.tup [ztd most' ss' ms',vi (zbt most' ss' ms' 0)]):=by
 have hn1:(ss.map Slip.row).length<=100000:=by simp;omega
 have hm1:(ms.map SumR.row).length<=100000:=by simp;omega
 have hr:(AV.tup [ztd most' ss' ms',vi (zbt most' ss' ms' 0)]).ids=[]:=by unfold ztd;split<;>rfl
 refine zg1 Tryz.func79 rfl Tryz.ntmps79 rfl rfl (by simpa [zbb,bk,AV.ids] using hcap) (λQ hQ=>?_) hr
 by_cases hl:zbt most' ss' ms' 0=0
 .have hB:ztd most' ss' ms'=bk most' ss' ms':=if_pos hl;rw [hB,hl] at hQ
  (repeat' (first|refine zlm (f:=f) (p:=[]) (q:=caps) (ys:=[.ptr 6 0]) (z:=.fn (.func f) [] caps) (y:=.tup []) (m:=bkM 6 most ss ms) (m':=bkM 6 most' ss' ms') (U:=[2001,2002]) ((2*1,.av (.fn (.func f) [] caps))::(2*6,.av (.ptr 6 0))::(2*4,.av (.ptr 4 0))::(2*4+1,.cells 25 [vi 0,.val (.slice none 0 0),.val (.slice none 0 0)])::(2*6+1,.cells 25 [vi most,.own 2001,.own 2002])::(2*2001+1,.buf 7 36 (ss.map Slip.row))::(2*2002+1,.buf 5 68 (ms.map SumR.row))::[]) (by refine znv ?_ (by simp only [zhp,za7.ids,AV.ids,zbb,hcap];exact rfl);repeat' (first|exact zg3|(refine ze5 rfl ?_))) ?_|refine uvu0 ?_|refine sy ?_|(refine aZ ?_;intros)|refine cvu0 ?_|fail))
  refine z3r.mk hf ?_ (hk:=by simp [z5g,zac,za7.ids,AV.ids,zbb,hcap,inB,bkM];exact⟨rfl,rfl,rfl⟩);(repeat' (first|refine sy ?_|(refine aZ ?_;intros)|refine cvu0 ?_|fail));exact hQ.go _ _ _ zcz (.inr rfl) rfl
 .have hdl:decide (zbt most' ss' ms' 0=0)=false:=oa hl
  have hB:ztd most' ss' ms'=bk 0 [] []:=if_neg hl;rw [hB] at hQ
  (repeat' (first|refine zlm (f:=f) (p:=[]) (q:=caps) (ys:=[.ptr 6 0]) (z:=.fn (.func f) [] caps) (y:=.tup []) (m:=bkM 6 most ss ms) (m':=bkM 6 most' ss' ms') (U:=[2001,2002]) ((2*1,.av (.fn (.func f) [] caps))::(2*6,.av (.ptr 6 0))::(2*4,.av (.ptr 4 0))::(2*4+1,.cells 25 [vi 0,.val (.slice none 0 0),.val (.slice none 0 0)])::(2*6+1,.cells 25 [vi most,.own 2001,.own 2002])::(2*2001+1,.buf 7 36 (ss.map Slip.row))::(2*2002+1,.buf 5 68 (ms.map SumR.row))::[]) (by refine znv ?_ (by simp only [zhp,za7.ids,AV.ids,zbb,hcap];exact rfl);repeat' (first|exact zg3|(refine ze5 rfl ?_))) ?_|refine uvu0 ?_|refine sy ?_|(refine aZ ?_;intros)|refine cvu0 ?_|fail))
  refine z3r.mk hf ?_ (hk:=by simp [z5g,zac,za7.ids,AV.ids,zbb,hcap,inB,bkM];exact⟨rfl,rfl,rfl⟩);(repeat' (first|refine sy ?_|(refine aZ ?_;intros)|refine cvu0 ?_|fail));exact hQ.go _ _ _ ((zdn 4 1 3001 7 36 rfl rfl rfl).trans (zdn 4 2 3002 5 68 rfl rfl rfl)) (.inr rfl) rfl
end Go.Ab.J
namespace Go.Ab.J
open Go Go.Proofs Go.Kp
section
variable{G:zbf}{u:Nat->ByteArray}
def zrd(is:Bool)(s:Slip):Slip:=⟨s.kind,s.dept,s.clerk,s.for_,s.lo,s.hi,if is then 1 else 2⟩
attribute [local irreducible] AOp AW ADr AFn ze1 AFt AOpJ
set_option maxRecDepth 20000
set_option maxHeartbeats 8000000
theorem z9p{most:Int}{ss:List Slip}{ms:List SumR}{k:Nat}{s:Slip}(hs:ss[k]?=some s)(is:Bool):zu1 (cx G) 108 ([]++[.ptr 6 0]++[.elt 1 [[vi k]] 0 0,.elt 1 [[vb is]] 0 0]) (bkM 6 most ss ms) (.tup []) (bkM 6 most (ss.set k (zrd is s)) ms) [2001,2002]:=by
 refine zeu [(6,0)] Tryz.func108 rfl Tryz.ntmps108 rfl rfl rfl λQ hQ=>?_;have hrow:(ss.map Slip.row)[k]?=some s.row:=by simp [hs]
 have hil:k<(ss.map Slip.row).length:=by simpa using (kab.1 hs).1
 have hX:(ss.map Slip.row).set k (spl s.row (0+6) [vi 2])=(ss.set k (zrd false s)).map Slip.row:=by rw [keg];rfl
 cases is
 ·(repeat' (first|refine sy ?_|(refine aZ ?_;intros)|refine w0 ?_|fail));exact hQ.go _ _ _ zcz (.inl rfl) rfl ⟨rfl,congrArg (λz=>some (za7.buf 7 36 z)) hX,rfl,trivial⟩ (λp hp=>by cases hp with|head=>rfl|tail _ h=>cases h)
 .have hil2:k<((ss.map Slip.row).set k (spl s.row (0+6) [vi 2])).length:=by rw [kcz];exact hil
  have hrow2:((ss.map Slip.row).set k (spl s.row (0+6) [vi 2]))[k]?=some (spl s.row (0+6) [vi 2]):=by rw [kc5 hil]
  have hY:((ss.map Slip.row).set k (spl s.row (0+6) [vi 2])).set k (spl (spl s.row (0+6) [vi 2]) (0+6) [vi 1])=(ss.set k (zrd true s)).map Slip.row:=by rw [List.set_set,keg];rfl
  (repeat' (first|refine sy ?_|(refine aZ ?_;intros)|refine w0 ?_|fail));exact hQ.go _ _ _ zcz (.inl rfl) rfl ⟨rfl,congrArg (λz=>some (za7.buf 7 36 z)) hY,rfl,trivial⟩ (λp hp=>by cases hp with|head=>rfl|tail _ h=>cases h)
def zrc(ss:List Slip)(slip:Int)(is:Bool):List Slip:=ss.set slip.toNat (zrd is (ss.getD slip.toNat d7))
def zh5(most:Int)(ss:List Slip)(ms:List SumR)(slip:Int):Int:=if zak most ss ms≠0 then zak most ss ms else if zmj ss slip=false then 6 else if (ss.getD slip.toNat d7).signed≠0 then 5 else 0
def zkp(most:Int)(ss:List Slip)(ms:List SumR)(slip:Int)(is:Bool):Int:=if zh5 most ss ms slip≠0 then zh5 most ss ms slip else zbt most (zrc ss slip is) ms 0
def zil(most:Int)(ss:List Slip)(ms:List SumR)(slip:Int)(is:Bool):AV:=if zkp most ss ms slip is=0 then bk most (zrc ss slip is) ms else bk 0 [] []
theorem cvv0{P G:Prop}(n:P)(h:Wr P->G:=by(intro n;first|((with_reducible apply kC);first|exact gB ⟨_,zbh _ _ _ hn hm,.mk rfl n.p⟩|exact gB ⟨_,zpv _ _ _ _ hn,.mk rfl n.p⟩|exact gB ⟨_,hT,.mk rfl n.p⟩|exact gK n.p|exact gS n.p)|exact⟨_,zbh _ _ _ hn hm,n.p⟩|exact⟨_,zpv _ _ _ _ hn,n.p⟩|exact⟨_,hT,n.p⟩|exact sk n.p|exact ap n.p)):G:=h ⟨n⟩
theorem evv0{G:Prop}(h:G:=by((repeat' (first|refine zbx (zcj 4 4 rfl rfl rfl oe) ?_|refine zbx (zcj 5 5 rfl rfl rfl oe) ?_|refine sy ?_|(refine aZ ?_;intros)|refine cvv0 ?_|fail));exact hQ.go _ _ _ ((zdn 6 1 3001 7 36 rfl rfl rfl).trans (zdn 6 2 3002 5 68 rfl rfl rfl)) (.inr rfl) rfl)):G:=h
theorem evv1{G:Prop}(h:G:=by((repeat' (first|refine zbx (zcj 4 4 rfl rfl rfl oe) ?_|refine zbx (zcj 5 5 rfl rfl rfl oe) ?_|refine sy ?_|(refine aZ ?_;intros)|refine cvv0 ?_|fail));exact hQ.go _ _ _ zcz (.inr rfl) rfl)):G:=h
theorem z9o(most:Int)(ss:List Slip)(ms:List SumR)(slip:Int)(is:Bool)(hn:ss.length<=20)(hm:ms.length<=20) :
  AFn (cx (zch u)) 35 [bk most ss ms,vi slip,vb is] (.tup [zil most ss ms slip is,vi (zkp most ss ms slip is)]):=by
 have hr:(AV.tup [zil most ss ms slip is,vi (zkp most ss ms slip is)]).ids=[]:=by unfold zil;split<;>rfl
 refine zg1 Tryz.func35 rfl Tryz.ntmps35 rfl rfl rfl (λQ hQ=>?_) hr
 by_cases hc:zak most ss ms=0
 .have hdc:decide (zak most ss ms=0)=true:=oa hc
  cases hf:zmj ss slip with
  | false =>
    have hf2:(decide (0<=slip/\slip<=(ss.length:Int)-1)&&decide ((ss.getD slip.toNat d7).kind=5))=false:=hf;have hL:zkp most ss ms slip is=6:=by simp [zkp,zh5,hc,hf]
    have hV:zil most ss ms slip is=bk 0 [] []:=by rw [zil,if_neg (by rw [hL];decide)]
    rw [hL,hV] at hQ;exact evv0
  | true =>
    have hf2:(decide (0<=slip/\slip<=(ss.length:Int)-1)&&decide ((ss.getD slip.toNat d7).kind=5))=true:=hf;have h2:0<=slip/\slip<=(ss.length:Int)-1:=by simp [zmj] at hf;exact hf.1
    obtain⟨k,rfl⟩:∃k:Nat,slip=(k:Int):=⟨slip.toNat,oc⟩;obtain⟨s,hs⟩:∃s,ss[k]?=some s:=⟨_,kaa oc⟩;have hrow:(ss.map Slip.row)[k]?=some s.row:=by simp [hs]
    have hil:k<(ss.map Slip.row).length:=by simp;omega
    have hg:ss.getD k d7=s:=by simp [hs]
    by_cases h0:s.signed=0
    .have hd0:decide (s.signed=0)=true:=oa h0
     have hO:zh5 most ss ms k=0:=by simp [zh5,hc,hf,hs,h0]
     have hn2:(ss.set k (zrd is s)).length<=20:=oa hn
     have hL:zkp most ss ms k is=zbt most (ss.set k (zrd is s)) ms 0:=by rw [zkp,if_neg (by simp [hO]),zrc,kb9,hg]
     have hT:=yc2 (u:=u) (caps:=[.elt 1 [[vi k]] 0 0,.elt 1 [[vb is]] 0 0]) rfl hn hm hn2 hm (z9p (G:=zch u) (most:=most) (ms:=ms) hs is);by_cases hl:zbt most (ss.set k (zrd is s)) ms 0=0
     .have hV:zil most ss ms k is=bk most (ss.set k (zrd is s)) ms:=by rw [zil,hL,if_pos hl,zrc,kb9,hg]
      rw [hL,hV] at hQ;rw [ztd,if_pos hl] at hT;exact evv1
     .have hV:zil most ss ms k is=bk 0 [] []:=by rw [zil,hL,if_neg hl]
      rw [hL,hV] at hQ;rw [ztd,if_neg hl] at hT;exact evv1
    .have hd0:decide (s.signed=0)=false:=oa h0
     have hL:zkp most ss ms k is=5:=by simp [zkp,zh5,hc,hf,hs,h0]
     have hV:zil most ss ms k is=bk 0 [] []:=by rw [zil,if_neg (by rw [hL];decide)]
     rw [hL,hV] at hQ;exact evv0
 .have hdc:decide (zak most ss ms=0)=false:=oa hc
  have hL:zkp most ss ms slip is=zak most ss ms:=by simp [zkp,zh5,hc]
  have hV:zil most ss ms slip is=bk 0 [] []:=by rw [zil,if_neg (by rw [hL];exact hc)]
  rw [hL,hV] at hQ;exact evv0
end
section
variable{G:zbf}{u:Nat->ByteArray}
def ycf(p:Slip->Bool)(ss:List Slip):Int:=match ss.findIdx? p with|some i=>(i:Int)|none=>-1
theorem z1d{p:Slip->Bool}{l:List Slip}(h:∀i,i<l.length->p (l.getD i d7)=false):ycf p l=-1:=by
 have:l.findIdx? p=none:=kcb.2 λy hy=>by obtain⟨i,hi⟩:=kba hy;have:=h i (kab.1 hi).1;simpa [hi] using this
 simp [ycf,this]
theorem yao{p:Slip->Bool}{l:List Slip}{i:Nat}(hi:i<l.length)(h:∀j,j<i->p (l.getD j d7)=false)(hx:p (l.getD i d7)=true):ycf p l=i:=by
 have:l.findIdx? p=some i:=by rw [kbk];refine⟨hi,by simpa [hi] using hx,λj hj=>?_⟩;have h1:=h j hj;simpa [kd1 hj hi] using h1
 simp [ycf,this]
attribute [local irreducible] AOp AW ADr AFn ze1 AFt AOpJ
set_option maxRecDepth 20000
set_option maxHeartbeats 8000000
theorem cvw0{P G:Prop}(n:P)(h:Wr P->G:=by(intro n;first|((with_reducible apply kC);first|exact gB ⟨_,hf _,.mk rfl n.p⟩|exact gK n.p|exact gS n.p)|exact⟨_,hf _,n.p⟩|exact sk n.p|exact ap n.p)):G:=h ⟨n⟩
theorem zof(l:List Slip)(f:FuncId)(p:Slip->Bool)(hl:l.length<=100000)(hf:∀x:Slip,AFn (cx G) f (.agg x.row::[]) (vb (p x))):AFn (cx G) 117 [.sl 7 (l.map Slip.row),.val (.func (.func f) #[] #[])] (vi (ycf p l)):=by
 refine aby Tryz.func117 Tryz.ntmps117 λQ hQ=>?_;(repeat' (first|refine sy ?_|(refine aZ ?_;intros)|refine cvw0 ?_|fail));refine zbe l.length (λi=>∀j,j<i->p (l.getD j d7)=false) (λi=>[(2*0,.av (.sl 7 (l.map Slip.row))),(2*1,.av (.val (.func (.func f) #[] #[]))),(2*7,.av (vi ((l.map Slip.row).length:Int))),(2*8,.av (vi i))]) (λj hj=>oc) ?_ ?_
 .exact si
 .intro i hi hP;rcases kae i l.length with hlt|hge
  .obtain⟨z,hz⟩:∃z,l[i]?=some z:=⟨_,kaa hlt⟩;have hzr:(l.map Slip.row)[i]?=some z.row:=by simp [hz]
   have hzl:i<(l.map Slip.row).length:=by simp;omega
   have hgz:l.getD i d7=z:=by simp [hz]
   have hd:decide ((i:Int)<((l.map Slip.row).length:Int))=true:=by simp;omega
   cases hx:p z with
   | true =>(repeat' (first|refine sx ?_|(refine aZ ?_;intros)|refine cvw0 ?_|fail));refine fe ?_;rw [yao hlt hP (by rw [hgz,hx])]
   | false =>
     (repeat' (first|refine sx ?_|(refine aZ ?_;intros)|refine cvw0 ?_|fail));refine⟨hlt,λj hj=>?_,?_⟩
     .rcases kae j i with h|h
      .exact hP j h
      .have:j=i:=oc
       subst this;rw [hgz];exact hx
     .exact si
  .have he:i=l.length:=oc
   subst he;have hd:decide ((l.length:Int)<((l.map Slip.row).length:Int))=false:=od
   (repeat' (first|refine sx ?_|(refine aZ ?_;intros)|refine cvw0 ?_|fail));refine fe ?_;rw [z1d hP]
theorem zwu(s:Slip):AFn (cx G) 50 [.agg s.row] (vb (decide (s.kind=5))):=by refine aby Tryz.func50 Tryz.ntmps50 λQ hQ=>?_;(repeat' (first|refine sx ?_|(refine aZ ?_;intros)|refine w0 ?_|fail));refine fe ?_;rfl
def exO:List Slip:=[⟨0,1,0,-1,20,22,0⟩,⟨1,1,1,-1,10,10,0⟩,⟨3,1,0,0,5,6,0⟩,⟨5,0,0,0,30,30,2⟩]
def exC:List Slip:=[⟨0,1,0,-1,20,22,0⟩,⟨1,1,1,-1,10,10,0⟩,⟨3,1,0,0,5,6,0⟩]
theorem cvw1{P G:Prop}(n:P)(h:Wr P->G:=by(intro n;first|((with_reducible apply kC);first|exact gB ⟨_,zof exO _ (λs=>decide (s.kind=5)) oe zwu,.mk rfl n.p⟩|exact gK n.p|exact gS n.p)|exact⟨_,zof exO _ (λs=>decide (s.kind=5)) oe zwu,n.p⟩|exact sk n.p|exact ap n.p)):G:=h ⟨n⟩
theorem za9:zu1 (cx G) 49 [.own 2001,.val (.func (.func 50) #[] #[])] [(2001,.buf 7 36 (exO.map Slip.row))] (.osl 7 2001 0 3) [(2001,.buf 7 36 ((exC++[d7]).map Slip.row))] []:=by
 refine zeu [(2001,0)] Tryz.func49 rfl Tryz.ntmps49 rfl rfl rfl λQ hQ=>?_;have hix:ycf (λs=>decide (s.kind=5)) exO=3:=rfl;(repeat' (first|refine sy ?_|(refine aZ ?_;intros)|refine cvw1 ?_|fail));refine zam 0 (λ_=>[(2*0,.av (.own 2001)),(2*5,.av (vi 3)),(2*6,.av (vi 4)),(2*2001+1,.buf 7 36 (exO.map Slip.row))]) ?_ ?_
 .exact si
 .intro i hi;(repeat' (first|refine sy ?_|(refine aZ ?_;intros)|refine cvw1 ?_|fail));exact hQ.go _ _ _ zcz (.inr rfl) rfl ⟨rfl,trivial⟩ λp hp=>by
   cases hp with
   | head=>rfl
   | tail _ h=>cases h
def ixU(i:Nat):List Int:=[[0,0,0,0],[0,0,0,0],[0,1,0,0],[0,1,2,0],[0,1,2,3]].getD i []
theorem z14:zak 1 exS exM=0:=by decide +kernel
theorem z15:zak 1 exO exM=0:=by decide +kernel
theorem zun{P G:Prop}(n:P)(h:Wr P->G:=by(intro n;first|((with_reducible apply kC);first|exact gB ⟨_,hck,.mk rfl n.p⟩|exact gK n.p|exact gS n.p)|exact⟨_,hck,n.p⟩|exact sk n.p|exact ap n.p)):G:=h ⟨n⟩
theorem evw0{G:Prop}(h:G:=by((repeat' (first|refine sy ?_|(refine aZ ?_;intros)|refine zun ?_|fail));refine⟨oe,?_⟩;exact si)):G:=h
theorem zsn:AFn (cx (zch u)) 9 [bk 1 exS exM] (.tup [bk 0 [] [],vi 7]):=by
 refine zg1 Tryz.func9 rfl Tryz.ntmps9 rfl rfl rfl (λQ hQ=>?_) rfl;have hck:=zbh (u:=u) 1 exS exM oe oe;rw [z14] at hck
 (repeat' (first|((with_reducible apply kC);first|refine gM (p:=[]) (ys:=[.sl 7 (exS.map Slip.row)]) (q:=[]) (zbi _ oe) ?_|refine gM (p:=[]) (ys:=[.sl 5 (exM.map SumR.row)]) (q:=[]) (zbj _ oe) ?_)|refine sy ?_|(refine aZ ?_;intros)|refine zun ?_|fail))
 refine zam 3 (λi=>[(2*1,.av (.ptr 1 0)),(2*1+1,.cells 25 [vi 1,.sl 7 (exS.map Slip.row),.sl 5 (exM.map SumR.row)]),(2*2,.av (.ptr 2 0)),(2*2+1,.cells 25 [vi 0,.val (.slice none 0 0),.val (.slice none 0 0)]),(2*5,.av (.ptr 5 0)),(2*5+1,.cells 25 [vi 1,.own 2001,.own 2002]),(2*2001+1,.buf 7 36 (exS.map Slip.row)),(2*2002+1,.buf 5 68 (exM.map SumR.row)),(2*6,.av (.own 30)),(2*30+1,.buf 1 3 (il (ixU i))),(2*7,.av (vi ((min i 3:Nat):Int))),(2*32,.av (.sl 7 (exS.map Slip.row))),(2*33,.av (vi 4)),(2*34,.av (vi i))]) ?_ ?_
 .exact si
 .intro i hi;rcases(show i=0\/i=1\/i=2\/i=3 by omega) with rfl|rfl|rfl|rfl
  .exact evw0
  .exact evw0
  .exact evw0
  ·(repeat' (first|refine sy ?_|(refine aZ ?_;intros)|refine zun ?_|fail));exact hQ.go _ _ _ ((zdn 2 1 3001 7 36 rfl rfl rfl).trans (zdn 2 2 3002 5 68 rfl rfl rfl)) (.inr rfl) rfl
theorem yo6{G:Prop}(h:G:=by((repeat' (first|refine sy ?_|(refine aZ ?_;intros)|refine zun ?_|fail));refine⟨oe,?_⟩;exact si)):G:=h
theorem uvw1{P G:Prop}(n:P)(h:Wr P->G:=by(intro nq9;first|((with_reducible apply kC);first|exact gM (p:=[]) (ys:=[.sl 7 (exO.map Slip.row)]) (q:=[]) (zbi _ oe) nq9.p|exact gM (p:=[]) (ys:=[.sl 5 (exM.map SumR.row)]) (q:=[]) (zbj _ oe) nq9.p|exact gM (p:=[]) (ys:=[.own 2001,.val (.func (.func 50) #[] #[])]) (q:=[]) za9 nq9.p))):G:=h ⟨n⟩
theorem zso:AFn (cx (zch u)) 9 [bk 1 exO exM] (.tup [bk 1 exC exM,vi 0]):=by
 refine zg1 Tryz.func9 rfl Tryz.ntmps9 rfl rfl rfl (λQ hQ=>?_) rfl;have hck:=zbh (u:=u) 1 exO exM oe oe;rw [z15] at hck;(repeat' (first|refine uvw1 ?_|refine sy ?_|(refine aZ ?_;intros)|refine zun ?_|fail))
 refine zam 4 (λi=>[(2*1,.av (.ptr 1 0)),(2*1+1,.cells 25 [vi 1,.sl 7 (exO.map Slip.row),.sl 5 (exM.map SumR.row)]),(2*2,.av (.ptr 2 0)),(2*2+1,.cells 25 [vi 0,.val (.slice none 0 0),.val (.slice none 0 0)]),(2*5,.av (.ptr 5 0)),(2*5+1,.cells 25 [vi 1,.own 2001,.own 2002]),(2*2001+1,.buf 7 36 (exO.map Slip.row)),(2*2002+1,.buf 5 68 (exM.map SumR.row)),(2*6,.av (.own 30)),(2*30+1,.buf 1 3 (il (ixU i))),(2*7,.av (vi ((min i 3:Nat):Int))),(2*32,.av (.sl 7 (exO.map Slip.row))),(2*33,.av (vi 4)),(2*34,.av (vi i))]) ?_ ?_
 .exact si
 .intro i hi;rcases(show i=0\/i=1\/i=2\/i=3\/i=4 by omega) with rfl|rfl|rfl|rfl|rfl
  .exact yo6
  .exact yo6
  .exact yo6
  .exact yo6
  ·(repeat' (first|refine uvw1 ?_|refine sy ?_|(refine aZ ?_;intros)|refine zun ?_|fail))
   refine zam 3 (λi=>[(2*2,.av (.ptr 2 0)),(2*2+1,.cells 25 [vi 0,.val (.slice none 0 0),.val (.slice none 0 0)]),(2*5,.av (.ptr 5 0)),(2*5+1,.cells 25 [vi 1,.osl 7 2001 0 3,.own 2002]),(2*2001+1,.buf 7 36 ((exC++[d7]).map Slip.row)),(2*2002+1,.buf 5 68 (exM.map SumR.row)),(2*6,.av (.own 30)),(2*30+1,.buf 1 3 (il (ixU 4))),(2*70,.av (vi 3)),(2*71,.av (vi i))]) ?_ ?_
   .exact si
   .intro i hi;rcases(show i=0\/i=1\/i=2\/i=3 by omega) with rfl|rfl|rfl|rfl
    .exact yo6
    .exact yo6
    .exact yo6
    ·(repeat' (first|refine sy ?_|(refine aZ ?_;intros)|refine zun ?_|fail));exact hQ.go _ _ _ (z4b 2 1 2001 3003 rfl rfl rfl rfl oe oe) (.inr rfl) rfl
end
section
variable{G:zbf}{u:Nat->ByteArray}
def zxt(most:Int)(ss:List Slip)(ms:List SumR)(ws:List Int)(sg:List Bool):List Int:=if (zcp most ss ms ws sg).2≠0 then [] else (zc0 ss (zcp most ss ms ws sg).1).take ss.length
def zxs(most:Int)(ss:List Slip)(ms:List SumR)(ws:List Int)(sg:List Bool):List Int:=if (zcp most ss ms ws sg).2≠0 then [] else zan ss ms (zc0 ss (zcp most ss ms ws sg).1)
theorem ybs(l:List Int)(hl:l.length=6){n:Nat}(hn:n<=6):(((amL l).drop 0).take n).map (λz=>[z])=il (l.take n):=by obtain⟨x0,x1,x2,x3,x4,x5,rfl⟩:=z5b l hl;rcases(show n=0\/n=1\/n=2\/n=3\/n=4\/n=5\/n=6 by omega) with rfl|rfl|rfl|rfl|rfl|rfl|rfl<;>rfl
theorem z91{ws:List Int}(_hl:ws.length<=6)(h:ws.any z0e=false):zhn (zvy ws):=by
 intro i;unfold zvy;rw [kai];rcases kae i ws.length with hi|hi
 .rw [kam hi,kaa hi];have:=List.any_eq_false.1 h ws[i] (kbf hi);simp [z0e] at this;simpa using this
 .rw [kao hi,List.getElem?_replicate];split<;>simp
theorem z4z{most:Int}{ss:List Slip}{ms:List SumR}{ws:List Int}{sg:List Bool}(h:(zcp most ss ms ws sg).2=0):Good most ss ms/\zhn (zc0 ss (zcp most ss ms ws sg).1)/\ws.length=ss.length/\ws.any z0e=false/\sg.length=(zae ss ss.length).length/\zcp most ss ms ws sg=((zvy ws,sgU (zae ss ss.length) sg (zae ss ss.length).length),0):=by
 unfold zcp at h |-;by_cases h1:zak most ss ms=0
 .have hg:=(za2 most ss ms).1 h1;rw [if_neg (by simp [h1])] at h |-;by_cases h2:ws.length=ss.length
  .rw [if_neg (by simp [h2])] at h |-;by_cases h3:ws.any z0e=true
   .rw [if_pos h3] at h;cases h
   .rw [if_neg h3] at h |-;by_cases h4:sg.length=(zae ss ss.length).length
    .rw [if_neg (by simp [h4])];have h3':ws.any z0e=false:=oa h3
     exact⟨hg,zh6 _ _ _ (z91 (by have:=hg.nss;omega) h3') _,h2,h3',h4,rfl⟩
    .rw [if_pos h4] at h;cases h
  .rw [if_pos h2] at h;cases h
 .rw [if_pos h1] at h;exact absurd h h1
attribute [local irreducible] AOp AW ADr AFn ze1 AFt AOpJ
set_option maxRecDepth 20000
set_option maxHeartbeats 8000000
theorem cvs0{P G:Prop}(n:P)(h:Wr P->G:=by(intro n;first|((with_reducible apply kC);first|exact gB ⟨_,zsm,.mk rfl n.p⟩|exact gB ⟨_,z7s most _ ms ws sg hn hm hwl,.mk rfl n.p⟩|exact gB ⟨_,zx3 most _ ms _ hg.nss hfor,.mk rfl n.p⟩|exact gB ⟨_,zgh most _ ms _ hg.nss hg.nms hkind hab,.mk rfl n.p⟩|exact gK n.p|exact gS n.p)|exact⟨_,zsm,n.p⟩|exact⟨_,z7s most _ ms ws sg hn hm hwl,n.p⟩|exact⟨_,zx3 most _ ms _ hg.nss hfor,n.p⟩|exact⟨_,zgh most _ ms _ hg.nss hg.nms hkind hab,n.p⟩|exact sk n.p|exact ap n.p)):G:=h ⟨n⟩
theorem z9z(most:Int)(ss:List Slip)(ms:List SumR)(ws:List Int)(sg:List Bool)(hn:ss.length<=20)(hm:ms.length<=20)(hwl:ws.length<=100000) :
  AFn (cx (zch u)) 24 [bk most ss ms,.sl 1 (il ws),.sl 1 (bl sg)] (.tup [.sl 1 (il (zxt most ss ms ws sg)),.sl 1 (il (zxs most ss ms ws sg)),vi (zcp most ss ms ws sg).2]):=by
 refine zg1 Tryz.func24 rfl Tryz.ntmps24 rfl rfl rfl (λQ hQ=>?_) rfl
 by_cases hz:(zcp most ss ms ws sg).2=0
 .have hdz:decide ((zcp most ss ms ws sg).2=0)=true:=oa hz
  obtain⟨hg,hab,hwn,_⟩:=z4z hz;have hfor:∀(i:Nat) (s:Slip),ss[i]?=some s->s.kind=5->0<=s.for_/\s.for_<(i:Int):=λi s hs h5=>⟨((hg.slip i s hs).for5 h5).1,((hg.slip i s hs).for5 h5).2.1⟩;have hkind:∀m∈ms,0<=m.kind/\m.kind<5:=λm hm=>by have:=(hg.sum m hm).1;omega
  have h6:(ss.map Slip.row).length<=6:=oa hg.nss
  have ht:=ybs (zc0 ss (zcp most ss ms ws sg).1) (zfy _ _ _ _) h6;have hN:zxt most ss ms ws sg=(zc0 ss (zcp most ss ms ws sg).1).take (ss.map Slip.row).length:=by rw [zxt,if_neg (by simp [hz]),ka6]
  have hW:zxs most ss ms ws sg=zan ss ms (zc0 ss (zcp most ss ms ws sg).1):=by rw [zxs,if_neg (by simp [hz])]
  rw [hN,hW,hz,<-ht] at hQ;rcases kbj ss.length with h0|h0
  .have he:=kbs.1 h0;subst he;(repeat' (first|refine zbx (zcj 12 12 rfl rfl rfl oe) ?_|refine sy ?_|(refine aZ ?_;intros)|refine cvs0 ?_|fail));refine hQ.go _ _ _ zcz (.inr rfl) rfl
  .have hcl:Nat.ble 1 ((((amL (zc0 ss (zcp most ss ms ws sg).1)).drop 0).take (ss.map Slip.row).length).map λz=>[z]).length=true:=by rw [ht];refine kcu ?_;simp [zc0,zfy];omega
   have hcn:((((amL (zc0 ss (zcp most ss ms ws sg).1)).drop 0).take (ss.map Slip.row).length).map λz=>[z]).length<=100000:=by rw [ht];simp;omega
   (repeat' (first|refine zbx (zcj 12 12 rfl rfl rfl oe) ?_|((with_reducible apply kC);first|refine gM (p:=[]) (ys:=[.sl 1 ((((amL (zc0 ss (zcp most ss ms ws sg).1)).drop 0).take (ss.map Slip.row).length).map λz=>[z])]) (q:=[]) (zqe _ hcl hcn) ?_)|refine sy ?_|(refine aZ ?_;intros)|refine cvs0 ?_|fail));exact hQ.go _ _ _ zcz (.inr rfl) rfl
 .have hdz:decide ((zcp most ss ms ws sg).2=0)=false:=oa hz
  have hN:zxt most ss ms ws sg=[]:=by rw [zxt,if_pos hz]
  have hW:zxs most ss ms ws sg=[]:=by rw [zxs,if_pos hz]
  rw [hN,hW] at hQ;(repeat' (first|refine sy ?_|(refine aZ ?_;intros)|refine cvs0 ?_|fail));exact hQ.go _ _ _ ((zbd 6 3000 1 3 rfl rfl).trans (zbd 7 3001 1 3 rfl rfl)) (.inr rfl) rfl
end
end Go.Ab.J
