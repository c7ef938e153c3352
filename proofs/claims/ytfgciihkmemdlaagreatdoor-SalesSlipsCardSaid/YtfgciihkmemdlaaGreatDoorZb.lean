/- What all laws about sales rest on, beside any goroutines. Conditions: none. -/
import Derived.Test.YtfgciihkmemdlaaGreatDoorZa
namespace Go.Kp
open Go Go.Conc Go.ConcM Go.Proofs
theorem zl9{D:Jdg}{fn:FuncId}{Q:Exit->D.St->Act->World->Prop}{s:D.St}{a:Act}{w:World}{ops:Array Oper}{i:Nat}{rest:List Nat}{o:Oper}{f:FuncId}{fnn:Func}{args:Array Operand}{ats:Array TypeId}(v:Value)
  (ho:ops[i]?=some o) (hw:Region.wanted o (yielded ops a.tmps)=true) (hop:o.op=.call { callee:=.value (.func f),args,argTypes:=ats }) (x:zei D.P f fnn (λ_=>pure v))
  (h:zbk D fn ops rest Q s (a.put o.dst v) w):zbk D fn ops (i::rest) Q s a w :=
 λb k cs hb hk hc=>Jdg.ctl rfl rfl rfl (λ_=>stepG_entry_pure v ho hw hk hop x.f x.name x.body x.next x.find) (h b k cs hb hk hc)
theorem zj3 {D : Jdg} {f : FuncId} {fn : Func} {c : Code} {args : Array Value} {s : D.St} {w : World} {Post : D.St -> Value -> World -> Prop} (hf : D.P.funcs[f]? = some fn) (hname : (fn.name == "runtime.NumGoroutine") = false) (hb : fn.body = some c)
  (n:Nat) (hn:fn.ntmps=n) (hle:args.size<=n) (h:∀F,(∀k v,args[k]?=some v->F k=v)->WpJ D f c (zsr D f fn Post) s { tmps:=tab n F,defers:=[] } w):zhv D f args s w Post:=by
 refine⟨fn,c,hf,hname,hb,?_⟩
 have hs:(args++Array.replicate (fn.ntmps-args.size) undef).size=n:=by simp [hn];omega
 rw [z7k hs]
 refine h _ λk v hk=>?_
 have hlt:=(kad.1 hk).1
 rw [kau,kb3 hlt,hk]
 rfl
section
variable{p:Par}{hst:yp0 p}{i:Nat}{hi:0<i}
set_option maxHeartbeats 4000000 in
theorem yew(s:PSt)(w:World)(hz:s.τ.z=0)(hr:s.τ.r=.out)(hd:s.τ.d=0)(hF:s.τ.c=p.F i)(hcap:8*(p.cap-p.b)+8<2147483632) :
  zhv (jdg p hst Tryz.prog i (zkq p Tryz.prog i hi)) 62 #[.pointer (some (wgA p.Wg)),.int .i64 (-1)] s w (λs' _ _=>s'.τ.z=3/\s'.τ.d=0):=by
 refine zj3 Tryz.func62 og rfl 117 og od λF hF'=>?_
 have h0:F 0=.pointer (some (wgA p.Wg)):=hF' 0 _ rfl
 have h1:F 1=.int .i64 (-1):=hF' 1 _ rfl
 clear hF'
 have hlv:=lv hi hz
 refine zaf (zdm (t:=true) rfl ?_)
 simp only [if_true]
 refine zaf (zaf ?_)
 refine qd ?_
 refine qj ?_
 refine qd ?_
 (co_applyP zdf ?hl1 (.pointer (some (wgA p.Wg))) rfl og ?hr1 ?h1;(case hl1=>exact hlv);(case hr1=>(intro w1 st sm st' sm' _ hWg;have hc:=(ze4 hWg).1;have hu:=zy4 hc;exact⟨run_eq_of λK hK=>ou,listed_nil (by simp [go_sem,zlu hc, *])⟩));refine nm ?_)
 intro n1 w1 l1 s1
 refine z44 rfl og rfl znm.f znm.name znm.body znm.next znm.find oh hi hz hr hd hF λn2 w2 l2 s2=>zad ?_
 clear hlv
 refine nm ?_
 refine qn ?_
 refine zcy ⟨od,λh=>oc⟩ .disable (.inl rfl) rfl og rfl ze2.f ze2.name ze2.body ze2.next ze2.find 1 (by rw [hd];rfl) λn3 w3 l3 s3=>zad ?_
 refine nm ?_
 refine rg ?_
 refine zjm rfl og rfl (vs:=#[]) od (zad ?_)
 refine nm ?_
 refine qc ?_
 refine zaf (zaf ?_)
 refine rg ?_
 refine zl9 (.bool false) rfl og rfl z3x (zad ?_)
 refine nm ?_
 refine cf ?_
 refine zap ?_
 refine qh ?_
 refine qo ?_
 refine pu ?_
 refine za4 rfl og rfl (vs:=#[.pointer (some (wgA p.Wg)),.int .u64 18446744069414584320]) (by simp [Act.eval, *];rfl) (z87 _ _ hi rfl kca hcap) λs4 v4 w4 hp=>?_
 obtain⟨O4,sees4,v,wt,rfl,hv,hwt,hcase⟩:=hp
 refine qm ?_
 have hvb:v<2147483648:=oc
 have a1:=ConcN.st_flag v wt hvb hwt
 have a2:=ConcN.st_waiters v wt hvb hwt
 have a3:((v:Int)*4294967296+(wt:Int)) / 4294967296=(v:Int):=oc
 have a4:=zb5 (v:Int) oc oc
 have a5:IntKind.u32.wrap (wt:Int)=(wt:Int):=by simp [IntKind.wrap,IntKind.bits,IntKind.signed];omega
 have a6:¬((v:Int)<0):=oc
 obtain⟨n4,τ4,O4'⟩:=s4
 have hc1:=Hid.mk hcase
 have hvb':=Hid.mk hvb
 have hv':=Hid.mk hv
 have hwt':=Hid.mk hwt
 clear hcase hvb hv hwt
 simp only [wgv]
 refine zfr (λs' a' w'=>s'=⟨n4,τ4,O4'⟩/\∃F,a'=⟨tab 117 F,[dcall 127 #[]]⟩/\F 0=.pointer (some (wgA p.Wg))/\F 1=.int .i64 (-1)/\F 4=.bool false/\F 6=wgv v wt) ?_ ?_
 .refine zaf ?_;refine qa ?_;refine pu ?_;refine ql ?_;refine qg ?_;exact zap ⟨rfl,_,rfl,by simp [h0],by simp [h1],od,by simp [wgv]⟩
 clear h0 h1
 rintro _ _ w5 ⟨rfl,F5,rfl,h0,h1,h4,h6⟩
 simp only [wgv] at h6
 refine zfr (λs' a' w'=>s'=⟨n4,τ4,O4'⟩/\∃F,a'=⟨tab 117 F,[dcall 127 #[]]⟩/\F 0=.pointer (some (wgA p.Wg))/\F 1=.int .i64 (-1)/\F 4=.bool false/\F 6=wgv v wt/\F 7=.int .i32 (v:Int)) ?_ ?_
 .refine rg ?_;refine qo ?_;refine pu ?_;refine qb ?_;exact⟨rfl,_,rfl,by simp [h0],by simp [h1],by simp [h4],by simp [wgv,h6],od⟩
 clear h0 h1 h4 h6
 rintro _ _ w6 ⟨rfl,F6,rfl,h0,h1,h4,h6,h7⟩
 simp only [wgv] at h6
 refine zfr (λs' a' w'=>s'=⟨n4,τ4,O4'⟩/\∃F,a'=⟨tab 117 F,[dcall 127 #[]]⟩/\F 0=.pointer (some (wgA p.Wg))/\F 1=.int .i64 (-1)/\F 4=.bool false/\F 6=wgv v wt/\F 7=.int .i32 (v:Int)/\F 8=.int .u32 (wt:Int)) ?_ ?_
 .refine rg ?_;refine qo ?_;refine pu ?_;refine qb ?_;exact⟨rfl,_,rfl,by simp [h0],by simp [h1],by simp [h4],by simp [wgv,h6],by simp [h7],od⟩
 clear h0 h1 h4 h6 h7
 rintro _ _ w7 ⟨rfl,F7,rfl,h0,h1,h4,h6,h7,h8⟩
 simp only [wgv] at h6
 refine zfr (λs' a' w'=>s'=⟨n4,τ4,O4'⟩/\∃F,a'=⟨tab 117 F,[dcall 127 #[]]⟩/\F 0=.pointer (some (wgA p.Wg))/\F 1=.int .i64 (-1)/\F 4=.bool false/\F 6=wgv v wt/\F 7=.int .i32 (v:Int)/\F 8=.int .u32 (wt:Int)) ?_ ?_
 .refine zaf ?_;refine qd ?_;refine qk ?_;refine qf ?_;refine uw ?_;refine qg ?_;exact zap ⟨rfl,_,rfl,by simp [h0],by simp [h1],by simp [h4],by simp [wgv,h6],by simp [h7],by simp [h8]⟩
 clear h0 h1 h4 h6 h7 h8
 rintro _ _ w8 ⟨rfl,F8,rfl,h0,h1,h4,h6,h7,h8⟩
 simp only [wgv] at h6
 refine zfr (λs' a' w'=>s'=⟨n4,τ4,O4'⟩/\∃F,a'=⟨tab 117 F,[dcall 127 #[]]⟩/\F 0=.pointer (some (wgA p.Wg))/\F 1=.int .i64 (-1)/\F 4=.bool false/\F 6=wgv v wt/\F 7=.int .i32 (v:Int)/\F 8=.int .u32 (wt:Int)) ?_ ?_
 .refine zaf ?_;refine qd ?_;refine qg ?_;exact zap ⟨rfl,_,rfl,by simp [h0],by simp [h1],by simp [h4],by simp [wgv,h6],by simp [h7],by simp [h8]⟩
 clear h0 h1 h4 h6 h7 h8
 rintro _ _ w9 ⟨rfl,F9,rfl,h0,h1,h4,h6,h7,h8⟩
 simp only [wgv] at h6
 refine zfr (λs' a' w'=>s'=⟨n4,τ4,O4'⟩/\∃F,a'=⟨tab 117 F,[dcall 127 #[]]⟩/\F 0=.pointer (some (wgA p.Wg))/\F 1=.int .i64 (-1)/\F 4=.bool false/\F 6=wgv v wt/\F 7=.int .i32 (v:Int)/\F 8=.int .u32 (wt:Int)) ?_ ?_
 .refine zaf ?_;have h6':=Hid.mk h6;have h8':=Hid.mk h8;clear a1 a2 a3 a4 a5 h6;rcases kbj wt with e|e
  .have g8:F9 8=.int .u32 0:=by rw [h8,e];rfl
   have e2:=Hid.mk e;clear h8 e;refine qa ?_;refine ql ?_;refine pu ?_;refine qf ?_;refine uw ?_;refine qg ?_;exact zap ⟨rfl,_,rfl,by simp [h0],by simp [h1],by simp [h4],by simp [wgv,h6'.out],by simp [h7],by simp [h8'.out]⟩
  .have g8:F9 8=.int .u32 1:=by rw [h8,show wt=1 by have:=hwt'.out;omega];rfl
   have e2:=Hid.mk e;clear h8 e;refine qa ?_;refine qk ?_;refine qf ?_;refine uw ?_;refine qg ?_;exact zap ⟨rfl,_,rfl,by simp [h0],by simp [h1],by simp [h4],by simp [wgv,h6'.out],by simp [h7],by simp [h8'.out]⟩
 have a1':=Hid.mk a1
 clear h0 h1 h4 h6 h7 h8
 rintro _ _ w10 ⟨rfl,F10,rfl,h0,h1,h4,h6,h7,h8⟩
 rcases hc1.out with ⟨hv0,hw1,hτ⟩|⟨hne,hτ⟩
 .have hτ':=Hid.mk hτ;simp only at hτ;subst hτ;have g6:F10 6=.int .u64 1:=by rw [h6,hv0,hw1];rfl
  have g7:F10 7=.int .i32 0:=by rw [h7,hv0];rfl
  have g8:F10 8=.int .u32 1:=by rw [h8,hw1];rfl
  clear a1 a2 a3 a4 a5 a6 h6 h7 h8 hv0 hw1 a1';refine zaf (zaf ?_);refine qa ?_;refine pg ?_;refine pg ?_;refine qg ?_;refine zap ?_;refine zaf (zaf ?_);refine qa ?_;refine za4 rfl og rfl (vs:=#[.pointer (some (wgA p.Wg))]) oh (ycp _ _ hi rfl kca) λs11 v11 w11 hp=>?_;obtain⟨n11,τ11,O11⟩:=s11;obtain⟨rfl,e1,e2,s11⟩:=hp;simp only at e1 e2;subst e1 e2;refine nm ?_
  refine pu ?_;refine qg ?_;refine zap ?_;refine qh ?_;refine za4 rfl og rfl (vs:=#[.pointer (some (wgA p.Wg)),.int .u64 0]) oh (yco _ _ hi rfl kca) λs12 v12 w12 hp=>zad ?_;obtain⟨n12,τ12,O12⟩:=s12;obtain⟨e1,e2,s12⟩:=hp;simp only at e1 e2;subst e1 e2;refine nm ?_;refine zaf (zaf ?_);refine rg ?_;refine qg ?_;refine zap ?_;refine zbq ?_
  refine zfs (r:=(· < ·)) kbu (λx s' a' w'=>∃F,a'=⟨tab 117 F,[dcall 127 #[]]⟩/\F 0=.pointer (some (wgA p.Wg))/\((x=1/\F 8=.int .u32 1/\s'.τ.z=4/\s'.τ.d=1)\/(x=0/\F 8=.int .u32 0/\s'.τ.z=3/\s'.τ.d=1))) 1 ⟨_,rfl,by simp [h0],.inl ⟨rfl,by simp [g8],rfl,rfl⟩⟩ ?_;clear h0 h1 h4 g6 g7 g8;rintro x s13 _ w13 ⟨F13,rfl,h0,⟨rfl,h8,z13,d13⟩|⟨rfl,h8,z13,d13⟩⟩
  .refine zaf (zaf ?_);refine qd ?_;refine qj ?_;refine zap ?_;refine zaf (zbq ?_);refine qa ?_;refine zxy rfl og rfl zlo.f zlo.name zlo.body zlo.next zlo.find oh hi z13 (by rw [d13];exact kca) λn14 w14 s14=>zad ?_;refine nm ?_;refine qa ?_;refine zad ⟨0,Nat.zero_lt_one,_,rfl,by simp [h0],.inr ⟨rfl,by simp;rfl,rfl,d13⟩⟩
  .refine zaf (zaf ?_);refine qd ?_;refine qg ?_;exact zih (zgo zlq rfl z13 0 (by rw [d13];rfl) (zfx rfl ⟨_,resultsC_none og _,z13,rfl⟩))
 .have hτ':=Hid.mk hτ;simp only at hτ;subst hτ;clear a1 a2 a3 a4 a5 h6;refine zaf ?_;refine zaf ?_;rcases kbj v with e|e
  .have g7:F10 7=.int .i32 0:=by rw [h7,e];rfl
   have g8:F10 8=.int .u32 0:=by rw [h8,show wt=0 by have:=hwt'.out;omega];rfl
   clear h7 h8 hne a6;refine qa ?_;refine pg ?_;refine pg ?_;refine qj ?_;exact zbc (zgo zlq rfl og 0 og (zfx rfl ⟨_,resultsC_none og _,og,rfl⟩))
  .have b3:¬v=0:=oc
   clear hne;refine qa ?_;refine ql ?_;refine qj ?_;exact zbc (zgo zlq rfl og 0 og (zfx rfl ⟨_,resultsC_none og _,og,rfl⟩))
set_option maxHeartbeats 1000000 in
theorem z2a(s:PSt)(w:World)(hz:s.τ.z=0)(hr:s.τ.r=.out)(hd:s.τ.d=0)(hF:s.τ.c=p.F i)(hcap:8*(p.cap-p.b)+8<2147483632) :
  zhv (jdg p hst Tryz.prog i (zkq p Tryz.prog i hi)) 64 #[.pointer (some (wgA p.Wg))] s w (λs' _ _=>s'.τ.z=3/\s'.τ.d=0):=by
 refine zj3 Tryz.func64 og rfl 4 og od λF hF'=>?_
 have h0:F 0=.pointer (some (wgA p.Wg)):=hF' 0 _ rfl
 clear hF'
 refine qd ?_
 refine zrx rfl og rfl (vs:=#[.pointer (some (wgA p.Wg)),.int .i64 (-1)]) oh (yew _ _ hz hr hd hF hcap) λs1 v1 w1 hp=>zad ?_
 exact zfx rfl ⟨_,resultsC_none og _,hp⟩
end
end Go.Kp
