/- What all laws about sales rest on, beside any goroutines. Conditions: none. -/
import Derived.Test.YtfgciihkmemdlaaGreatDoorZF
namespace Go.Ab
open Go Go.RowKit
theorem yk0{wd:Nat}:∀{rows:List (List AV)},(∀r∈rows,r.length=wd)->rows.flatten.length=rows.length*wd
 | [],_=>od
 | r::rows,h=>by rw [kcm,kbx,h r (kdo ..),yk0 λr hr=>h r (kdh _ hr),kbo,kct,Nat.add_comm]
theorem ynk{wd n:Nat}{rows:List (List AV)}(h:∀r∈rows,r.length=wd)(hn:n<=rows.length):(rows.drop n).flatten=rows.flatten.drop (n*wd):=by
 have e:rows.flatten=(rows.take n).flatten++(rows.drop n).flatten:=by rw [<-List.flatten_append,kd9]
 have hl:(rows.take n).flatten.length=n*wd:=by rw [yk0 λr hr=>h r (kbz hr),kcj,kcd hn]
 rw [e,<-hl,List.drop_left]
theorem ymb{wd n:Nat}{rows zr:List (List AV)}(h:∀r∈rows,r.length=wd)(hz:∀r∈zr,r.length=wd)(hn:n+zr.length<=rows.length):(spl rows n zr).flatten=spl rows.flatten (n*wd) zr.flatten:=by unfold spl;rw [kee,kee,zq5 h,ynk h hn,yk0 hz,Nat.add_mul]
theorem Rel.fillbuf{G:zbf}{N:Nat}{w0:zfq}{s:AS}{a:Act}{w:World}{E:Env}{i wd n:Nat}{T:TypeId}{rows zr:List (List AV)}{us:List Value}(h:Rel G N w0 s a w E)(hl:zac s (2*i+1)=some (.buf wd T rows))(hp:0<rows.length)(hn:n+zr.length<=rows.length)
  (hz:∀r∈zr,r.length=wd/\∀x∈r,x.ids=[]/\x.atom=true) (hr:yf1 E w zr.flatten us):∃b l c vs,E.buf i=.slice (some ⟨b,0,none⟩) l c/\w.heap[b]?=some (.cells vs T (0,0))/\n*wd+us.length<=vs.size/\
   Rel G N w0 ((2*i+1,.buf wd T (spl rows n zr))::s) a (w.setRow b (vs.toList.take (n*wd)++us++vs.toList.drop (n*wd+us.length)).toArray) E:=by
 obtain⟨h1,vs,⟨h2,h3⟩,h4⟩:=h.mem i _ hl
 rcases h3 with ⟨_,h5⟩|⟨b,cap,cur,h3,h5,h6,h7,h8,h9,h10⟩
 .omega
 .have hblk:blk E i (zac s (2*i+1))=some b:=by rw [hl];simp [blk,h3,Value.ownBlock]
  obtain⟨n1,n2,n3⟩:=h.new i _ hblk;have hul:us.length=zr.flatten.length:=hr.1.symm;have hzl:zr.flatten.length=zr.length*wd:=yk0 λr hr=>(hz r hr).1;have hle:n*wd+us.length<=rows.length*wd:=by have:(n+zr.length)*wd<=rows.length*wd:=kcy _ hn;rw [Nat.add_mul] at this;omega
  have hcs:rows.length*wd<=cur.size:=by rw [h9];exact kcy _ h7
  refine⟨b,rows.length,cap,cur,h3,h6,oc,?_⟩;generalize hcs':(cur.toList.take (n*wd)++us++cur.toList.drop (n*wd+us.length))=new;have hother:∀k,k≠b->(w.setRow b new.toArray).heap[k]?=w.heap[k]?:=λk hk=>setRow_other w _ k _ hk;have hk:zdy E w (w.setRow b new.toArray):=λk hk o v hc=>by rw [World.cell?_of_block (w:=w) (a:=⟨k,o,none⟩) (hother k λe=>n2 (e▸hk))];exact hc
  have hd:=(h.kill i).step (E':=E) (w':=w.setRow b new.toArray) (λ_ h=>h) hk (λ_ _=>⟨rfl,rfl⟩) (λj k hbl=>by
   by_cases e:j=i
   .subst e;rw [zaa,if_pos rfl] at hbl;simp [blk] at hbl
   .rw [zaa,if_neg oc] at hbl;exact⟨hother k λe2=>h.dis i j b (Ne.symm e) hblk (by rw [hbl,e2]),(h.new j k hbl).2.1⟩)
   (λk hk=>by rw [setRow_size];exact h.imm k hk) (by rw [setRow_size];exact kac _)
   (h.ext.wr ⟨rfl,rfl,rfl,by rw [setRow_size];exact kac _,λk hk=>oc⟩ λk hk hn=>hother k λe=>hn (e▸(n1.2 (e▸hk)).1)) h.old (hdd:=λD hD=>(hother D λe=>by rw [e,h6] at hD;cases hD).trans hD)
  have hrows:∀r∈spl rows n zr,r.length=wd/\∀x∈r,x.ids=[]/\x.atom=true:=λr hr=>by
   simp only [spl,kax] at hr;rcases hr with (hr|hr)|hr
   .exact h1 r (kbz hr)
   .exact hz r hr
   .exact h1 r (kby hr)
  have hsl:(spl rows n zr).length=rows.length:=zzl hn;have hvl:vs.length=rows.length*wd:=by rw [<-yk0 λr hr=>(h1 r hr).1];exact h4.1.symm
  have hf:=ymb (λr hr=>(h1 r hr).1) (λr hr=>(hz r hr).1) hn;refine(hd.setmem (i:=i) (c:=.buf wd T (spl rows n zr)) ⟨hrows,spl vs (n*wd) us,⟨?_,.inr ⟨b,cap,new.toArray,?_,h5,setRow_heap w _ _ _ T _ h6,?_,h8,?_,?_⟩⟩,?_⟩ (λk hb=>?_) λk hk2=>by simp [za7.ids] at hk2).congr λk=>(zmf).symm
  .rw [zzl oc,h2,hsl]
  .rw [h3,hsl]
  .rw [hsl];exact h7
  .rw [<-hcs',<-h9];simp;omega
  .rw [hsl,<-hcs',<-h10];exact z4f cur.toList us (n*wd) (rows.length*wd) oc oy
  .rw [hf];refine yf1.step (E:=E) (w:=w) (λ_ h=>h) hk ?_ λk hk=>absurd hk (zpx (λx hx=>?_) k)
   .unfold spl;rw [hul];exact((h4.take _).append hr).append (h4.drop _)
   .rw [<-hf] at hx;obtain⟨r,hr1,hr2⟩:=kci.1 hx;exact((hrows r hr1).2 x hr2).1
  .have hb':b=k:=by simpa [blk,h3,Value.ownBlock] using hb
   subst hb';refine⟨n1,n2,by rw [setRow_size];exact n3,λj hj=>?_⟩;rw [zaa,if_neg oc];exact h.dis i j _ (Ne.symm hj) hblk
theorem ylh(z:Array Value):∀m,(Builtin.zeroCells z m).toList=(List.replicate m z.toList).flatten:=by
 have key:∀m,(Builtin.zeroCells z m).toList=(List.range (m*z.size)).map λi=>z[i % z.size]!:=λm=>by simp [Builtin.zeroCells]
 intro m;induction m with
 | zero=>simp [Builtin.zeroCells]
 | succ m ih =>
   rw [key] at ih;rw [key,kct,List.range_add,kbt,ih,List.replicate_succ',kee,List.map_map];congr 1;apply kc0;intro j;rcases kae j z.size with hj|hj
   .simp [hj,Nat.mod_eq_of_lt hj]
   .simp [hj]
section
variable{C:Cx}{N:Nat}{s:AS}{d:Nat}{t ty e:TypeId}{pos:String}{af:Array Edge}{g:Option (Nat×Bool)}{x y:Operand}{i wd n:Nat}{T:TypeId}{ti:TI}{rows:List (List AV)}
theorem yku{z:List AV}{m:Nat}(hx:ev s x=some (.osl wd i n m))(hl:zac s (2*i+1)=some (.buf wd T rows))(ht:(C.ti t).map (·.sh)=some (.sl e))(he:C.ti e=some ti)(hs:Nat.beq ti.zero.length wd=true)(hz:z=ti.zero.map AV.val)(ho:ti.zero.all (λv=>v.oneCell')=true)(hn:n+m<=rows.length)(hm:0<m) :
  AOp C N ⟨none,.call { callee:=.builtin .clear,args:=#[x],argTypes:=#[t] },ty,pos,af,g⟩ (rds x++[2*i+1]) s [(2*i+1,.buf wd T (spl rows n (List.replicate m z)))]:=by
 intro w0 E s' a w hR hr K Q hK
 subst hz
 have hx':=zat hR (λ_ h=>by simp [h]) hx
 have hl':zac s' (2*i+1)=some (.buf wd T rows):=(hR _ od).trans hl
 have hs:=kaj hs
 obtain⟨zv,hz1,hz2⟩:=Cx.ti_zero he w
 have hzc:(Builtin.zeroCells zv.cells m).toList=(List.replicate m ti.zero).flatten:=by rw [ylh,hz2]
 have hfl:(List.replicate m (ti.zero.map AV.val)).flatten=((List.replicate m ti.zero).flatten).map AV.val:=by rw [List.map_flatten,List.map_replicate]
 have hrep:yf1 E w (List.replicate m (ti.zero.map AV.val)).flatten (List.replicate m ti.zero).flatten:=by rw [hfl];exact⟨od,λj x v hx hv=>by rw [kaq,hv] at hx;cases hx;exact .val v⟩
 obtain⟨b,l,c,vs,h3,h4,h5,h6⟩:=hr.fillbuf (n:=n) (zr:=List.replicate m (ti.zero.map AV.val)) hl' oc (by rw [List.length_replicate];exact hn) (λr hr=>by
  obtain rfl:=kef hr;refine⟨by rw [ka6];exact hs,λq hq=>?_⟩;obtain⟨v,hv,rfl⟩:=kav.1 hq;exact⟨rfl,kar.1 ho v hv⟩) hrep
 have h7:=hr.ev hx'
 generalize hev:a.eval x=u at h7
 cases h7 with
 | osl _ _ _ _ gg l' c' hg =>
   rw [h3] at hg;simp only [Value.slice.injEq,kap,Addr.mk.injEq] at hg;obtain⟨⟨rfl,_,_⟩,_,_⟩:=hg;cases htt:C.ti t with
   | none=>rw [htt] at ht;cases ht
   | some tj =>
     rw [htt] at ht;have hu:=Cx.under_sl htt (oa ht);have hst:=run_storeCells_at C.P b (n*wd) T (List.replicate m ti.zero).flatten 0 vs w h4 (oa h5) λv hv=>by
      obtain⟨r,hr1,hr2⟩:=kci.1 hv;obtain rfl:=kef hr1
      exact kar.1 ho v hr2
     rw [kb1] at hst;unfold Oper.wp;obtain⟨m',rfl⟩:∃m',m=m'+1:=⟨m-1,oc⟩;have hrun:(execOp a.eval ⟨none,.call { callee:=.builtin .clear,args:=#[x],argTypes:=#[t] },ty,pos,af,g⟩).run C.P w=.ok (.value (.tuple #[])) (w.setRow b (vs.toList.take (n*wd)++(List.replicate (m'+1) ti.zero).flatten++vs.toList.drop (n*wd+(List.replicate (m'+1) ti.zero).flatten.length)).toArray):=by
      simp [execOp,resolve,invoke,builtin,Builtin.clear_,hev,run_underlying hu,hz1,hzc,hst]
     rw [hrun];exact hK _ _ E h6
theorem ylm{G:zbf}(t i:Nat)(ht:zac s (2*t)=some (.av (.own i)))(hl:zac s (2*i+1)=some (.buf wd T rows))(hN:t<N)(hp:0<rows.length):Sub G N s ((2*t,.av (.osl wd i 0 rows.length))::s):=λw0 a w E hr=>by
 obtain⟨gg,cap,h1,h2⟩:=z2n hr hl hp;have hv:=zda (hr.tmp t _ ht);have h4:=hr.put hN (x:=.osl wd i 0 rows.length) (v:=a.tmps.getD t undef) (by
  rw [hv,h1];have:=Rep.osl (E:=E) (w:=w) wd i 0 rows.length gg rows.length cap h1;simpa using this) (λk hk=>by simp [AV.ids] at hk;subst hk;rw [hl];simp)
 rw [zvs] at h4;exact⟨_,h4⟩
end
end Go.Ab
namespace Go.Ab.J
open Go Go.Proofs Go.Kp
open Go.Sort (swp ltInt PermIn SortedIn Below swo_ltInt bitsLen)
variable{G:zbf}
attribute [local irreducible] AOp AW ADr AFn ze1 AFt AOpJ
set_option maxRecDepth 20000
set_option maxHeartbeats 16000000
theorem pdq_m(d:Array Int)(a b limit:Nat)(hab:a<=b)(hb:b<=d.size)(hs:d.size<65536)(hl:limit<=100000)(hB:Below ltInt a b d):zu1 (cx G) 147 [.own 1000,vi a,vi b,vi limit] [(1000,.buf 1 3 (ia d))] (.tup []) [(1000,.buf 1 3 (ia (srt d a b)))] []:=by
 generalize hn:b-a=n;induction n using Nat.strongRecOn generalizing d a b limit with
 | ind n ih=>exact pdq_w d a b limit hab hb hs hl hB λd2 a2 b2 l2 h1 h2 h3 h4 h5 h6=>ih (b2-a2) oc d2 a2 b2 l2 h2 h3 h4 h5 h6 rfl
theorem yon(l:List Int):ia (srt l.toArray 0 l.toArray.size)=il (ym6 l):=by have h:=Go.Sort.sort_sorts ltInt swo_ltInt l.toArray;have e:=ymk (kb6 _) (kac _) h.1 h.2;rw [<-e];unfold ia;rw [Go.Sort.sortInt l];rfl
theorem csq0{P G:Prop}(n:P)(h:Wr P->G:=by(intro n;first|((with_reducible apply kC);first|exact gB ⟨_,hL,.mk rfl n.p⟩|exact gK n.p|exact gS n.p)|exact⟨_,hL,n.p⟩|exact sk n.p|exact ap n.p)):G:=h ⟨n⟩
theorem yow(l:List Int)(h:l.length<65536):zu1 (cx G) 77 [.own 1000] [(1000,.buf 1 3 (il l))] (.tup []) [(1000,.buf 1 3 (il (ym6 l)))] []:=by
 refine zeu [(1000,0)] Tryz.func77 rfl Tryz.ntmps77 rfl rfl rfl λQ hQ=>?_;have e1:((il l).length:Int)=(l.length:Int):=od
 have hL:=yop (G:=G) l.length h;rw [<-e1] at hL;have hbl:=yme h;have m1:=pdq_m (G:=G) l.toArray 0 l.toArray.size (bitsLen l.length) (kb6 _) (kac _) (oa h) oc (.inl rfl);rw [yon,show ia l.toArray=il l by rfl,show((l.toArray.size:Nat):Int)=((il l).length:Int) by simp,show((0:Nat):Int)=0 by rfl] at m1
 (repeat' (first|refine g1 ?_ om ⟨z3j oe rfl rfl rfl (yli oc),zsj rfl rfl rfl rfl⟩|((with_reducible apply kC);first|refine gM (p:=[]) (ys:=[_,_,_,_]) (q:=[]) m1 ?_)|refine sy ?_|(refine aZ ?_;intros)|refine csq0 ?_|fail));exact hQ.g1 (.inl rfl) rfl ⟨rfl,trivial⟩ rfl
def ylg(l:List Int)(n:Nat):Prop:=∀k,1<=k->k<n->l.getD k 0≠l.getD (k-1) 0
theorem yl1{l:List Int}:∀n,n<=l.length->ylg l n->cpU l n=l.take n
 | 0,_,_=>by simp [cpU]
 | n+1,hn,h=>by
   have ih:=yl1 n oc λk h1 h2=>h k h1 oc;rw [cpU,if_pos,ih,ykr hn];rcases kbj n with h0|h0
   .exact .inl h0
   .exact .inr (h n h0 oc)
theorem ykt{l:List Int}{i:Nat}(h:i<l.length):(il l)[i]?=some [vi (l.getD i 0)]:=by simp [h]
theorem ym2(l:List Int)(h:l.length<65536)(hp:0<l.length)(hno:ylg l l.length):zu1 (cx G) 78 [.own 1000] [(1000,.buf 1 3 (il l))] (.osl 1 1000 0 (il l).length) [(1000,.buf 1 3 (il l))] []:=by
 refine zeu [(1000,0)] Tryz.func78 rfl Tryz.ntmps78 rfl rfl rfl λQ hQ=>?_;have e1:((il l).length:Int)=(l.length:Int):=od
 by_cases h2:l.length<2
 .have hd:decide (((il l).length:Int)<2)=true:=by simp;omega
  (repeat' (first|refine sy ?_|(refine aZ ?_;intros)|refine w0 ?_|fail));exact hQ.go _ _ _ (ylm 2 1000 rfl rfl oe (oa hp)) (.inr rfl) rfl ⟨rfl,trivial⟩ (λp hp=>by cases hp with|head=>rfl|tail _ h=>cases h)
 .have hd:decide (((il l).length:Int)<2)=false:=by simp;omega
  (repeat' (first|refine sy ?_|(refine aZ ?_;intros)|refine w0 ?_|fail));refine zam (l.length-1) (λi=>[(2*0,.av (.own 1000)),(2*3,.av (vi ((i+1:Nat):Int))),(2*1000+1,.buf 1 3 (il l))]) ?_ ?_
  .exact si
  .intro i hi;by_cases hlt:i+1<l.length
   .have hdl:decide (((i+1:Nat):Int)<((il l).length:Int))=true:=by simp;omega
    have q1:((i+1:Nat):Int)-1=((i:Nat):Int):=oc
    have v1:=ykt hlt;have v2:=ykt (show i<l.length by omega);have l1:i+1<(il l).length:=by simp;omega
    have l2:i<(il l).length:=by simp;omega
    have hne:decide (l.getD (i+1) 0=l.getD i 0)=false:=by have:=hno (i+1) oc hlt;rw [kec] at this;exact decide_eq_false this
    have ei:vi (((i+1:Nat):Int)+1)=vi ((i+1+1:Nat):Int):=od
    (repeat' (first|refine sy ?_|(refine aZ ?_;intros)|refine w0 ?_|fail));refine⟨oc,?_⟩;exact si
   .have hdl:decide (((i+1:Nat):Int)<((il l).length:Int))=false:=by simp;omega
    (repeat' (first|refine sy ?_|(refine aZ ?_;intros)|refine w0 ?_|fail));exact hQ.go _ _ _ (ylm 2 1000 rfl rfl oe (oa hp)) (.inr rfl) rfl ⟨rfl,trivial⟩ (λp hp=>by cases hp with|head=>rfl|tail _ h=>cases h)
def cpB(l:List Int)(n:Nat):List Int:=cpU l n++l.drop (cpU l n).length
theorem yoq{l:List Int}{n:Nat}(h:n<=l.length):(cpB l n).length=l.length:=by have:=ymd l n;simp [cpB];omega
theorem yno{l:List Int}{n j:Nat}(h1:(cpU l n).length<=j):(cpB l n).getD j 0=l.getD j 0:=by simp only [cpB,kai];rw [kao h1,kbb,show(cpU l n).length+(j-(cpU l n).length)=j by omega]
theorem ymp{l:List Int}{n:Nat}(h0:n≠0)(h:l.getD n 0=l.getD (n-1) 0):cpU l (n+1)=cpU l n:=by rw [cpU,if_neg (by rintro(h1|h1);exact h0 h1;exact h1 h)]
theorem yn7{l:List Int}{n:Nat}(hn:n<l.length)(h:l.getD n 0≠l.getD (n-1) 0):cpU l (n+1)=cpU l n++[l.getD n 0]/\cpB l (n+1)=(cpB l n).set (cpU l n).length (l.getD n 0):=by
 have e:cpU l (n+1)=cpU l n++[l.getD n 0]:=by rw [cpU,if_pos (.inr h)]
 refine⟨e,?_⟩;have hl:=ymd l n;unfold cpB;rw [e,List.set_append_right _ _ (kac _),kei,kbg];congr 1;rw [kbx,List.length_singleton];have:(cpU l n).length<l.length:=oc
 rw [List.drop_eq_getElem_cons this,List.set_cons_zero];rfl
theorem ym1(l:List Int)(h:l.length<65536)(k0:Nat)(hk1:1<=k0)(hk:k0<l.length)(hno:ylg l k0)(hdup:l.getD k0 0=l.getD (k0-1) 0):zu1 (cx G) 78 [.own 1000] [(1000,.buf 1 3 (il l))] (.osl 1 1000 0 (cpF l).length) [(1000,.buf 1 3 (il (cpF l++List.replicate (l.length-(cpF l).length) 0)))] []:=by
 refine zeu [(1000,0)] Tryz.func78 rfl Tryz.ntmps78 rfl rfl rfl λQ hQ=>?_;have hd:decide (((il l).length:Int)<2)=false:=by simp;omega
 have hc0:=yl1 k0 oc hno;have hc1:cpU l (k0+1)=l.take k0:=(ymp oc hdup).trans hc0;have hB1:cpB l (k0+1)=l:=by unfold cpB;rw [hc1,kcj,kcd oc,kd9]
 have hcl:(cpU l (k0+1)).length=k0:=by rw [hc1,kcj,kcd oc]
 (repeat' (first|refine sy ?_|(refine aZ ?_;intros)|refine w0 ?_|fail));refine zam (k0-1) (λi=>[(2*0,.av (.own 1000)),(2*3,.av (vi ((i+1:Nat):Int))),(2*1000+1,.buf 1 3 (il l))]) ?_ ?_
 .exact si
 .intro i hi;have hdl:decide (((i+1:Nat):Int)<((il l).length:Int))=true:=by simp;omega
  have q1:((i+1:Nat):Int)-1=((i:Nat):Int):=oc
  have v1:=ykt (show i+1<l.length by omega);have v2:=ykt (show i<l.length by omega);have l1:i+1<(il l).length:=by simp;omega
  have l2:i<(il l).length:=by simp;omega
  by_cases hlt:i<k0-1
  .have hne:decide (l.getD (i+1) 0=l.getD i 0)=false:=by
     have:=hno (i+1) oc oc;rw [kec] at this;exact decide_eq_false this
   have ei:vi (((i+1:Nat):Int)+1)=vi ((i+1+1:Nat):Int):=od
   (repeat' (first|refine sy ?_|(refine aZ ?_;intros)|refine w0 ?_|fail));refine⟨hlt,?_⟩;exact si
  .have hie:i+1=k0:=oc
   have hi0:k0-1=i:=oc
   rw [hi0] at hdup;have heq:decide (l.getD (i+1) 0=l.getD i 0)=true:=by rw [hie];exact decide_eq_true hdup
   (repeat' (first|refine g1 ?_ oG ⟨yey oe rfl rfl rfl rfl rfl rfl rfl oM,ydy rfl rfl (kcu oy) rfl⟩|refine sy ?_|(refine aZ ?_;intros)|refine w0 ?_|fail));subst hie;have eL:(il l).length=l.length:=od
   have e31:vi ((i+1:Nat):Int)=vi (((cpU l (i+1+(0+1))).length:Nat):Int):=by rw [show i+1+(0+1)=i+1+1 by omega,hcl]
   refine zam (l.length-(i+1)-1) (λm=>[(2*0,.av (.own 1000)),(2*3,.av (vi (((cpU l (i+1+(m+1))).length:Nat):Int))),(2*4,.av (.osl 1 1000 (i+1) ((il l).length-(i+1)))),(2*5,.av (vi ((m+1:Nat):Int))),(2*1000+1,.buf 1 3 (il (cpB l (i+1+(m+1)))))]) ?_ ?_
   .rw [show i+1+(0+1)=i+1+1 by omega,hB1,hcl];exact si
   .intro m hm;have hle:(cpU l (i+1+(m+1))).length<=i+1+m:=by
      clear hm;induction m with
      | zero=>rw [show i+1+(0+1)=i+1+1 by omega,hcl];omega
      | succ m ih =>
        have:(cpU l (i+1+(m+1)+1)).length<=(cpU l (i+1+(m+1))).length+1:=by rw [cpU];split<;>simp
        rw [show i+1+(m+1+1)=i+1+(m+1)+1 by omega];omega
    have hbl:=yoq (l:=l) (n:=i+1+(m+1)) oc;by_cases hlt:m<l.length-(i+1)-1
    .have hdm:decide (((m+1:Nat):Int)<(((il l).length-(i+1):Nat):Int))=true:=by simp;omega
     have q2:((m+1:Nat):Int)-1=((m:Nat):Int):=oc
     have g5:=yno (l:=l) (n:=i+1+(m+1)) (j:=i+1+(m+1)) oc;have g6:=yno (l:=l) (n:=i+1+(m+1)) (j:=i+1+m) oc;have v5:=ykt (l:=cpB l (i+1+(m+1))) (i:=i+1+(m+1)) oc;have v6:=ykt (l:=cpB l (i+1+(m+1))) (i:=i+1+m) oc;rw [g5] at v5;rw [g6] at v6;have em:vi (((m+1:Nat):Int)+1)=vi ((m+1+1:Nat):Int):=od
     have l5:i+1+(m+1)<(il (cpB l (i+1+(m+1)))).length:=by simp;omega
     have l6:i+1+m<(il (cpB l (i+1+(m+1)))).length:=by simp;omega
     by_cases he:l.getD (i+1+(m+1)) 0=l.getD (i+1+m) 0
     .have hde:(!decide (l.getD (i+1+(m+1)) 0=l.getD (i+1+m) 0))=false:=oa he
      have hs1:cpU l (i+1+(m+1+1))=cpU l (i+1+(m+1)):=ymp (n:=i+1+(m+1)) oc he;have hs2:cpB l (i+1+(m+1+1))=cpB l (i+1+(m+1)):=by unfold cpB;rw [hs1]
      (repeat' (first|refine g1 ?_ om ⟨z61 oe rfl rfl rfl oq oc,zkj rfl⟩|refine sy ?_|(refine aZ ?_;intros)|refine w0 ?_|(refine s2 ?_ ?_<;>intro h7<;>try omega)));refine⟨hlt,?_⟩;rw [hs1,hs2];clear hs1 hs2 v1 v2 v5 v6 g5 g6 hc1 hc0 hB1 hcl e31 hQ;exact si
     .have hde:(!decide (l.getD (i+1+(m+1)) 0=l.getD (i+1+m) 0))=true:=oa he
      obtain⟨hs1,hs2⟩:=yn7 (l:=l) (n:=i+1+(m+1)) oc he;have hs3:(cpU l (i+1+(m+1+1))).length=(cpU l (i+1+(m+1))).length+1:=by rw [show i+1+(m+1+1)=i+1+(m+1)+1 by omega,hs1];simp
      have hs4:cpB l (i+1+(m+1+1))=(cpB l (i+1+(m+1))).set (cpU l (i+1+(m+1))).length (l.getD (i+1+(m+1)) 0):=hs2;generalize cpU l (i+1+(m+1))=U at hs3 hs4 hle |-;generalize cpB l (i+1+(m+1))=B at hs4 hbl v5 v6 l5 l6 |-;have v7:=ykt (l:=B) (i:=U.length) oc;have l7:U.length<(il B).length:=by simp;omega
      have e7:vi ((U.length:Int)+1)=vi (((U.length+1:Nat)):Int):=od
      have e8:(il B).set U.length (spl [vi (B.getD U.length 0)] 0 [vi (l.getD (i+1+(m+1)) 0)])=il (B.set U.length (l.getD (i+1+(m+1)) 0)):=by simp [il,spl]
      (repeat' (first|refine g1 ?_ om ⟨z61 oe rfl rfl rfl oq oc,zkj rfl⟩|refine sy ?_|(refine aZ ?_;intros)|refine w0 ?_|(refine s2 ?_ ?_<;>intro h7<;>try omega)));refine⟨hlt,?_⟩;rw [hs3,hs4,<-e8];clear hs1 hs2 v1 v2 v5 v6 v7 g5 g6 hc1 hc0 hB1 hcl e31 hQ e8 hs3 hs4;exact si
    .have hme:m=l.length-(i+1)-1:=oc
     have hdm:decide (((m+1:Nat):Int)<(((il l).length-(i+1):Nat):Int))=false:=by simp;omega
     have hnn:i+1+(m+1)=l.length:=oc
     rw [hnn] at hle hbl |-;have hB:cpB l l.length=cpF l++l.drop (cpF l).length:=rfl;have hF:cpU l l.length=cpF l:=rfl;rw [hF] at hle |-;have hfin:spl (il (cpB l l.length)) (cpF l).length (List.replicate ((il (cpB l l.length)).length-(cpF l).length) [vi 0])=il (cpF l++List.replicate (l.length-(cpF l).length) 0):=by
      rw [show(il (cpB l l.length)).length=l.length by simp [hbl],hB];unfold spl;simp only [il,kbt,List.map_replicate,List.length_replicate];rw [List.take_append_of_le_length od,kb4 od,List.drop_eq_nil_of_le od];simp
     rw [<-hfin] at hQ;have hl9:(cpF l).length<(il (cpB l l.length)).length:=by simp;omega
     have hl8:(cpF l).length<(cpB l l.length).length:=oc
     clear hfin hB hF;generalize cpF l=F at hQ hle hl9 hl8 |-;generalize cpB l l.length=B at hQ hbl hl9 hl8 |-
     (repeat' (first|refine g1 ?_ oG ⟨yku rfl rfl rfl rfl rfl rfl rfl oy oc,ya3 rfl rfl rfl⟩|refine g1 ?_ oG ⟨yey oe rfl rfl rfl rfl rfl rfl rfl oM,ydy rfl rfl (kcu oy) rfl⟩|refine g1 ?_ oG ⟨yez oe rfl rfl rfl rfl rfl rfl rfl (by rw [zzl (by simp;omega)];simp;omega) (by rw [zzl (by simp;omega)];simp;omega),ydy rfl rfl (kcu (by rw [zzl (by simp;omega)];simp;omega)) rfl⟩|refine sy ?_|(refine aZ ?_;intros)|refine w0 ?_|fail))
     exact hQ.g1 (.inr rfl) rfl ⟨rfl,trivial⟩ rfl
end Go.Ab.J
