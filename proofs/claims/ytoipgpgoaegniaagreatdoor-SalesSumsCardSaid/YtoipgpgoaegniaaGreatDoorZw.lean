/- For every book, kind, number and index the function SalesSums answers true, whatever other goroutines do, and leaves its arguments as they were. Conditions: those of the given row. -/
import Derived.Test.YtoipgpgoaegniaaGreatDoorZp
import Derived.Test.YtoipgpgoaegniaaGreatDoorZt
namespace Go.Ab.J
open Go Go.Proofs Go.Kp
section
variable{G:zbf}
attribute [local irreducible] AOp AW ADr AFn ze1 AFt AOpJ
set_option maxRecDepth 20000
set_option maxHeartbeats 8000000
theorem z9u{E:Env}{w:World}{xs:List AV}{v:Value}(h:Rep E w (.agg xs) v):∃vs,v=.agg vs.toArray∧RepL E w xs vs:=by
 cases h with
 | agg xs vs hl h=>exact⟨vs,rfl,hl,h⟩
theorem z4u{E:Env}{w:World}{xs:List AV}{vs:List Value}(h:RepL E w xs vs):Rep E w (.agg xs) (.agg vs.toArray):=.agg xs vs h.1 h.2
theorem zw4{l:List Int}(h:zhn l){x:Int}(hx:0≤x∧x≤999):zhn (l++[x]):=fun i=>by
 rcases kdd i l.length with h1|h1|h1
 ·have:=h i;simpa [kai,kam h1] using this
 ·subst h1;simpa using hx
 ·have:(l++[x])[i]?=none:=kay (by simp;omega);simp [this]
def zc7(ss:List Slip)(p:zfo):List Int:=(zdv ss p.1 p.2 ss.length).1
theorem zb6(ss:List Slip)(p:zfo):(zc7 ss p).length=ss.length:=zk3 _ _ _ _
theorem zma(ss:List Slip)(wr:List Int)(sg:List Bool)(h:zhn wr):∀n,zhn (zdv ss wr sg n).1
 | 0=>fun i=>by simp [zdv]
 | n+1=>by
   have ih:=zma ss wr sg h n;have h1:=zw4 ih (h n);simp only [zdv];split
   ·split
    ·exact zm8 (zm8 h1 (by decide) n) (h n) _
    ·exact zm8 h1 (by decide) n
   ·exact h1
def zdk(most:Int)(ss:List Slip)(ms:List SumR)(p:zfo):Bool:=zxr ss p.1 p.2&&zf9 ss (zc7 ss p)&&decide (((zan ss ms (zc7 ss p)).length:Int)≤most)&&!zse ms (zan ss ms (zc7 ss p))
theorem zd9(ss:List Slip)(ms:List SumR)(am:List Int):∀x∈zan ss ms am,0≤x∧x<(ms.length:Int):=fun x hx=>by simp only [zan,zao,kav,kbw,ka3] at hx;obtain⟨j,⟨hj,_⟩,rfl⟩:=hx;omega
theorem crj0{P G:Prop}(n:P)(h:Go.Kp.Wr P→G:=by(intro n;first|((with_reducible apply kC);first|exact gB ⟨_,zey _ _ _ _ _ hn hok hw hsg,.mk rfl n.p⟩|exact gB ⟨_,ze3 most ss ms (zc7 ss (wr,sg)) hn hm (zb6 _ _) hab hk0,.mk rfl n.p⟩|exact gB ⟨_,zn9 _ _ _ _ _ hn hw hsg,.mk rfl n.p⟩|exact gB ⟨_,zll most ss ms (zc7 ss (wr,sg)) hn (by rw [zb6];exact kac _) hab,.mk rfl n.p⟩|exact gB ⟨_,zwi _ _ _ _ hwl (zd9 _ _ _),.mk rfl n.p⟩|exact gK n.p|exact gS n.p)|exact⟨_,zey _ _ _ _ _ hn hok hw hsg,n.p⟩|exact⟨_,ze3 most ss ms (zc7 ss (wr,sg)) hn hm (zb6 _ _) hab hk0,n.p⟩|exact⟨_,zn9 _ _ _ _ _ hn hw hsg,n.p⟩|exact⟨_,zll most ss ms (zc7 ss (wr,sg)) hn (by rw [zb6];exact kac _) hab,n.p⟩|exact⟨_,zwi _ _ _ _ hwl (zd9 _ _ _),n.p⟩|exact sk n.p|exact ap n.p)):G:=h ⟨n⟩
theorem zw5(most:Int)(ss:List Slip)(ms:List SumR)(wr:List Int)(sg:List Bool)(hn:ss.length≤20)(hm:ms.length≤20)(hok:∀(i:Nat) (s:Slip),ss[i]?=some s→zne ss i s)(hw:wr.length=ss.length)(hsg:sg.length=(zae ss ss.length).length)(hwr:zhn wr)(hk0:∀m∈ms,0≤m.kind) :
  AFn (cx G) 126 [bk most ss ms,.agg [.sl 1 (il wr),.sl 1 (bl sg)]] (vb (zdk most ss ms (wr,sg))):=by
 refine zag Tryz.func126 rfl Tryz.ntmps126 rfl rfl rfl ?_ rfl
 refine zab fun Q hQ=>?_
 have hab:zhn (zc7 ss (wr,sg)):=zma ss wr sg hwr ss.length
 have hwl:(zan ss ms (zc7 ss (wr,sg))).length≤100000:=by have:=zd8 ss ms (zc7 ss (wr,sg));omega
 have hl:(il (zan ss ms (zc7 ss (wr,sg)))).length=(zan ss ms (zc7 ss (wr,sg))).length:=by simp
 unfold zdk at hQ
 rw [←hl] at hQ
 (repeat' (first|refine sx ?_|refine aS fun P9 h9=>?_|refine aB fun P9 _ _ _ _=>?_|refine crj0 ?_|(refine s2 ?_ ?_<;>intro h7<;>try omega)))
 all_goals refine fe ?_
 all_goals refine congrArg vb ?_
 all_goals grind
def zds(ss:List Slip):List zfo:=zhu ss ss.length 0 [] []
def zaj(most:Int)(ss:List Slip)(ms:List SumR):List zfo:=(zds ss).filter (zdk most ss ms)
theorem zqf(ss:List Slip)(hlo:∀s∈ss,0≤s.lo∧s.hi≤999):∀(m i:Nat) (wr:List Int) (sg:List Bool),i+m=ss.length→wr.length=i→sg.length=(zae ss i).length→zhn wr→∀p∈zhu ss m i wr sg,p.1.length=ss.length∧p.2.length=(zae ss ss.length).length∧zhn p.1
 | 0,i,wr,sg,hi,h1,h2,h3,p,hp=>by
   simp only [zhu,kcg] at hp;have:i=ss.length:=by omega
   subst this hp;exact⟨h1,h2,h3⟩
 | m+1,i,wr,sg,hi,h1,h2,h3,p,hp=>by
   simp only [zhu,kcq] at hp;obtain⟨n,hn,hp⟩:=hp;have hil:i<ss.length:=by omega
   have hs:=hlo ss[i] (kbf hil);have hg:ss.getD i d7=ss[i]:=by simp [hil]
   have hnr:0≤n∧n≤999:=by simp only [zbr,kav,ka3,hg] at hn;obtain⟨j,hj,rfl⟩:=hn;omega
   have hf:=zbn ss i;split at hp
   ·rename_i hk;refine zqf ss hlo m (i+1) _ _ (by omega) (by simp [h1]) ?_ (zw4 h3 hnr) p hp;rw [hf,if_neg hk];simpa using h2
   ·rename_i hk;have hk:=Decidable.not_not.1 hk;have hl:∀b,(sg++[b]).length=(zae ss (i+1)).length:=fun b=>by rw [hf,if_pos hk];simp [h2]
    rcases kax.1 hp with hp|hp
    ·split at hp
     ·exact zqf ss hlo m (i+1) _ _ (by omega) (by simp [h1]) (hl _) (zw4 h3 hnr) p hp
     ·cases hp
    ·split at hp
     ·exact zqf ss hlo m (i+1) _ _ (by omega) (by simp [h1]) (hl _) (zw4 h3 hnr) p hp
     ·cases hp
theorem zuu{ss:List Slip}(hlo:∀s∈ss,0≤s.lo∧s.hi≤999):∀p∈zds ss,p.1.length=ss.length∧p.2.length=(zae ss ss.length).length∧zhn p.1 :=
 zqf ss hlo ss.length 0 [] [] (by omega) rfl rfl fun i=>by simp
theorem Good.can{most:Int}{ss:List Slip}{ms:List SumR}(h:Good most ss ms):∀s∈ss,(0≤s.lo∧s.hi≤999)∧s.lo≤s.hi∧s.hi-s.lo<3:=fun s hs=>by obtain⟨i,hi⟩:=kba hs;have:=(h.slip i s hi).amt;omega
theorem Good.k0{most:Int}{ss:List Slip}{ms:List SumR}(h:Good most ss ms):∀m∈ms,0≤m.kind:=fun m hm=>(h.sum m hm).1.1
theorem zqn{most:Int}{ss:List Slip}{ms:List SumR}(h:Good most ss ms):(zds ss).length≤46656:=by
 have h1:=zhi ss h.h3 ss.length 0 [] [];have h2:6 ^ ss.length≤6 ^ 6:=kbi (by decide) h.nss;have:6 ^ 6=46656:=by decide
 unfold zds;omega
theorem zjl{most:Int}{ss:List Slip}{ms:List SumR}(h:Good most ss ms):(zaj most ss ms).length≤46656:=kak (kbc _ _) (zqn h)
theorem zd5{most:Int}{ss:List Slip}{ms:List SumR}(h:Good most ss ms){p:zfo}(hp:p∈zaj most ss ms):p.1.length=ss.length∧p.2.length=(zae ss ss.length).length∧zhn p.1:=zuu h.lo p (kbw.1 hp).1
theorem zri{E:Env}{w:World}{vs:List Value}{b:AV}(h:RepL E w [b,.agg [.val (.slice none 0 0),.val (.slice none 0 0)]] vs):RepL E w [b,.agg [.sl 1 (il []),.sl 1 (bl [])]] vs:=by
 obtain⟨v,us,rfl,h1,h2⟩:=h.inv;obtain⟨v2,us,rfl,h3,h4⟩:=h2.inv;refine h1 |> fun h1=>RepL.cons h1 (RepL.cons ?_ h4)
 obtain⟨ws,rfl,h5⟩:=z9u h3;obtain⟨u1,ws,rfl,h6,h7⟩:=h5.inv;obtain⟨u2,ws,rfl,h8,h9⟩:=h7.inv;rw [h6.val_eq,h8.val_eq];exact z4u ((h9.cons (.nil 1)).cons (.nil 1))
theorem crj1{P G:Prop}(n:P)(h:Go.Kp.Wr P→G:=by(intro n;first|((with_reducible apply kC);first|exact gB ⟨_,zw6 (yeh most ss ms hg.nss hg.can ss.length 0 [] [] rfl (by omega) (kac _)) fun E w vs h=>zri h,.mk rfl n.p⟩|exact gK n.p|exact gS n.p)|exact⟨_,zw6 (yeh most ss ms hg.nss hg.can ss.length 0 [] [] rfl (by omega) (kac _)) fun E w vs h=>zri h,n.p⟩|exact sk n.p|exact ap n.p)):G:=h ⟨n⟩
theorem zqg{most:Int}{ss:List Slip}{ms:List SumR}(hg:Good most ss ms):AFn (cx G) 60 [bk most ss ms] (.sl 2 (rp (zds ss))):=by refine zag Tryz.func60 rfl Tryz.ntmps60 rfl rfl rfl ?_ rfl;refine zab fun Q hQ=>?_;(repeat' (first|refine sx ?_|refine aS fun P9 h9=>?_|refine aB fun P9 _ _ _ _=>?_|refine crj1 ?_|(refine s2 ?_ ?_<;>intro h7<;>try omega)));refine fe ?_;rfl
theorem zrg{l:List zfo}{i:Nat}{p:zfo}(h:l[i]?=some p):(rp l)[i]?=some [.sl 1 (il p.1),.sl 1 (bl p.2)]:=by simp [h]
theorem crj2{P G:Prop}(n:P)(h:Go.Kp.Wr P→G:=by(intro n;first|((with_reducible apply kC);first|exact gB ⟨_,zqg hg,.mk rfl n.p⟩|exact gB ⟨_,zw5 most ss ms _ _ (by omega) (by omega) hg.slip ho.1 ho.2.1 ho.2.2 hg.k0,.mk rfl n.p⟩|exact gK n.p|exact gS n.p)|exact⟨_,zqg hg,n.p⟩|exact⟨_,zw5 most ss ms _ _ (by omega) (by omega) hg.slip ho.1 ho.2.1 ho.2.2 hg.k0,n.p⟩|exact sk n.p|exact ap n.p)):G:=h ⟨n⟩
theorem zro{most:Int}{ss:List Slip}{ms:List SumR}(hg:Good most ss ms):AFn (cx G) 81 [bk most ss ms] (.sl 2 (rp (zaj most ss ms))):=by
 refine zag Tryz.func81 rfl Tryz.ntmps81 rfl rfl rfl ?_ rfl;refine zab fun Q hQ=>?_;have hn6:=hg.nss;have hm5:=hg.nms;have hal:=zqn hg;(repeat' (first|refine sx ?_|refine aS fun P9 h9=>?_|refine aB fun P9 _ _ _ _=>?_|refine crj2 ?_|(refine s2 ?_ ?_<;>intro h7<;>try omega)));refine zbx (zbd 4 1000 2 76 rfl rfl) ?_
 refine zam (zds ss).length (fun i=>[(2*1,.av (.ptr 1 0)),(2*1+1,.cells 25 [vi most,.sl 7 (ss.map Slip.row),.sl 5 (ms.map SumR.row)]),(2*3,.av (.sl 2 (rp (zds ss)))),(2*4,.av (.own 1000)),(2*1000+1,.buf 2 76 (rp (((zds ss).take i).filter (zdk most ss ms)))),(2*5,.av (vi i))]) ?_ ?_
 ·exact si
 ·intro i hi;rcases kae i (zds ss).length with hlt|hge
  ·obtain⟨⟨wr,sg⟩,hp⟩:∃p,(zds ss)[i]?=some p:=⟨_,kaa hlt⟩;have hrow:=zrg hp;have hil:i<(rp (zds ss)).length:=by simpa using hlt
   have ho:=zuu hg.lo _ (kag hp);have hd:decide ((i:Int)<((rp (zds ss)).length:Int))=true:=decide_eq_true (by simp;omega);have hi1:vi ((i+1:Nat):Int)=vi ((i:Int)+1):=by simp
   have hfl:=kbc (zdk most ss ms) ((zds ss).take i);have htl:((zds ss).take i).length≤46656:=by simp;omega
   have h1000:(rp (((zds ss).take i).filter (zdk most ss ms))).length+[[AV.sl 1 (il wr),AV.sl 1 (bl sg)]].length≤1000000000:=by simp only [rp,ka6,kbo,kbv];omega
   rcases ka1 (zdk most ss ms (wr,sg)) with ha|ha
   ·have hsucc:rp (((zds ss).take (i+1)).filter (zdk most ss ms))=rp (((zds ss).take i).filter (zdk most ss ms))++[[AV.sl 1 (il wr),AV.sl 1 (bl sg)]]:=by
     rw [kb8,hp];simp [ha]
    (repeat' (first|refine sx ?_|refine aS fun P9 h9=>?_|refine aB fun P9 _ _ _ _=>?_|refine crj2 ?_|(refine s2 ?_ ?_<;>intro h7<;>try omega)));refine⟨hlt,?_⟩;refine zbg (rn1 1000 26) ?_ rfl rfl;exact sr
   ·have hsucc:rp (((zds ss).take (i+1)).filter (zdk most ss ms))=rp (((zds ss).take i).filter (zdk most ss ms)):=by
     rw [kb8,hp];simp [ha]
    (repeat' (first|refine sx ?_|refine aS fun P9 h9=>?_|refine aB fun P9 _ _ _ _=>?_|refine crj2 ?_|(refine s2 ?_ ?_<;>intro h7<;>try omega)));refine⟨hlt,?_⟩;exact si
  ·have he:i=(zds ss).length:=by omega
   subst he;have hd:decide (((zds ss).length:Int)<((rp (zds ss)).length:Int))=false:=decide_eq_false (by simp);(repeat' (first|refine sx ?_|refine aS fun P9 h9=>?_|refine aB fun P9 _ _ _ _=>?_|refine crj2 ?_|(refine s2 ?_ ?_<;>intro h7<;>try omega)));refine fe ?_;rw [kdl];rfl
def zcl(most:Int)(ss:List Slip)(ms:List SumR)(own:Int):Int:=if zak most ss ms≠0 then zak most ss ms else if own≠0 then own else if zaj most ss ms=[] then 9 else 0
theorem zk7{most:Int}{ss:List Slip}{ms:List SumR}{own:Int}(h:zcl most ss ms own=0):Good most ss ms∧own=0∧zaj most ss ms≠[]:=by
 unfold zcl at h;by_cases hc:zak most ss ms=0
 ·by_cases ho:own=0
  ·by_cases hh:zaj most ss ms=[]
   ·simp [hc,ho,hh] at h
   ·exact⟨(za2 most ss ms).1 hc,ho,hh⟩
  ·simp [hc,ho] at h
 ·simp [hc] at h
theorem crj3{P G:Prop}(n:P)(h:Go.Kp.Wr P→G:=by(intro n;first|((with_reducible apply kC);first|exact gB ⟨_,zg8 _ _ _ hn hm,.mk rfl n.p⟩|exact gB ⟨_,zro hg,.mk rfl n.p⟩|exact gK n.p|exact gS n.p)|exact⟨_,zg8 _ _ _ hn hm,n.p⟩|exact⟨_,zro hg,n.p⟩|exact sk n.p|exact ap n.p)):G:=h ⟨n⟩
theorem zha{most:Int}{ss:List Slip}{ms:List SumR}{own:Int}(hn:ss.length≤20)(hm:ms.length≤20)(h:zcl most ss ms own=0):AFn (cx G) 27 [bk most ss ms,vi own] (.tup [.sl 2 (rp (zaj most ss ms)),vi 0]):=by
 obtain⟨hg,ho,hh⟩:=zk7 h;subst ho;refine zag Tryz.func27 rfl Tryz.ntmps27 rfl rfl rfl ?_ rfl;refine zab fun Q hQ=>?_;have hd1:decide (zak most ss ms=0)=true:=by simpa using (za2 most ss ms).2 hg
 have hd2:decide (((rp (zaj most ss ms)).length:Int)=0)=false:=decide_eq_false (by have:=kbn.2 hh;simp;omega);(repeat' (first|refine sx ?_|refine aS fun P9 h9=>?_|refine aB fun P9 _ _ _ _=>?_|refine crj3 ?_|(refine s2 ?_ ?_<;>intro h7<;>try omega)));refine fe ?_;rfl
theorem zhb{most:Int}{ss:List Slip}{ms:List SumR}{own:Int}(hn:ss.length≤20)(hm:ms.length≤20)(h:zcl most ss ms own≠0):AFn (cx G) 27 [bk most ss ms,vi own] (.tup [.val (.slice none 0 0),vi (zcl most ss ms own)]):=by
 refine zag Tryz.func27 rfl Tryz.ntmps27 rfl rfl rfl ?_ rfl;refine zab fun Q hQ=>?_;by_cases hc:zak most ss ms=0
 ·have hd1:decide (zak most ss ms=0)=true:=by simpa using hc
  by_cases ho:own=0
  ·subst ho;have hg:=(za2 most ss ms).1 hc;have hh:zaj most ss ms=[]:=Classical.byContradiction fun hh=>h (by simp [zcl,hc,hh]);have hd2:decide (((rp (zaj most ss ms)).length:Int)=0)=true:=decide_eq_true (by rw [hh];rfl);have hL:zcl most ss ms 0=9:=by simp [zcl,hc,hh]
   rw [hL] at hQ;(repeat' (first|refine sx ?_|refine aS fun P9 h9=>?_|refine aB fun P9 _ _ _ _=>?_|refine crj3 ?_|(refine s2 ?_ ?_<;>intro h7<;>try omega)));refine fe ?_;rfl
  ·have hd2:decide (own=0)=false:=by simpa using ho
   have hL:zcl most ss ms own=own:=by simp [zcl,hc,ho]
   rw [hL] at hQ;(repeat' (first|refine sx ?_|refine aS fun P9 h9=>?_|refine aB fun P9 _ _ _ _=>?_|refine crj3 ?_|(refine s2 ?_ ?_<;>intro h7<;>try omega)));refine fe ?_;rfl
 ·have hd1:decide (zak most ss ms=0)=false:=by simpa using hc
  have hL:zcl most ss ms own=zak most ss ms:=by simp [zcl,hc]
  rw [hL] at hQ;(repeat' (first|refine sx ?_|refine aS fun P9 h9=>?_|refine aB fun P9 _ _ _ _=>?_|refine crj3 ?_|(refine s2 ?_ ?_<;>intro h7<;>try omega)));refine fe ?_;rfl
end
section
variable{G:zbf}
attribute [local irreducible] AOp AW ADr AFn ze1 AFt AOpJ
set_option maxRecDepth 20000
set_option maxHeartbeats 8000000
theorem zyt{P G:Prop}(n:P)(h:Go.Kp.Wr P→G:=by(intro n;first|((with_reducible apply kC);first|exact gB ⟨_,zv8 _ _ _,.mk rfl n.p⟩|exact gK n.p|exact gS n.p)|exact⟨_,zv8 _ _ _,n.p⟩|exact sk n.p|exact ap n.p)):G:=h ⟨n⟩
theorem zvc(i many:Int)(hm:0≤many∧many≤100000):AFn (cx G) 37 [vi i,vi many] (vi (if decide (0≤i∧i≤many-1) then 0 else 6)):=by
 refine zag Tryz.func37 rfl Tryz.ntmps37 rfl rfl rfl ?_ rfl;refine zab fun Q hQ=>?_;by_cases h:0≤i∧i≤many-1
 ·have hd:decide (0≤i∧i≤many-1)=true:=by simpa using h
  (repeat' (first|refine sx ?_|refine aS fun P9 h9=>?_|refine aB fun P9 _ _ _ _=>?_|refine zyt ?_|(refine s2 ?_ ?_<;>intro h7<;>try omega)));refine fe ?_;simp [h]
 ·have hd:decide (0≤i∧i≤many-1)=false:=by simpa using h
  (repeat' (first|refine sx ?_|refine aS fun P9 h9=>?_|refine aB fun P9 _ _ _ _=>?_|refine zyt ?_|(refine s2 ?_ ?_<;>intro h7<;>try omega)));refine fe ?_;rw [if_neg (by rw [hd];simp)]
def zy9(some many:Int):Int:=if some=many then 1 else if some=0 then 2 else 0
theorem z7j(n m:Int):AFn (cx G) 40 [vi n,vi m] (vi (zy9 n m)):=by
 refine zag Tryz.func40 rfl Tryz.ntmps40 rfl rfl rfl ?_ rfl;refine zab fun Q hQ=>?_;(repeat' (first|refine sx ?_|refine aS fun P9 h9=>?_|refine aB fun P9 _ _ _ _=>?_|refine zyt ?_|(refine s2 ?_ ?_<;>intro h7<;>try omega)));all_goals refine fe ?_
 all_goals refine congrArg vi ?_
 all_goals unfold zy9
 all_goals grind
theorem z75(l:List Int)(x:Int)(hl:l.length≤100000):AFn (cx G) 38 [.sl 1 (il l),vi x] (vb (decide (x∈l))):=by
 refine zag Tryz.func38 rfl Tryz.ntmps38 rfl rfl rfl ?_ rfl;refine zab fun Q hQ=>?_;(repeat' (first|refine sx ?_|refine aS fun P9 h9=>?_|refine aB fun P9 _ _ _ _=>?_|refine zyt ?_|(refine s2 ?_ ?_<;>intro h7<;>try omega)));refine zbe l.length (fun i=>∀j,j<i→l.getD j 0≠x) (fun i=>[(2*0,.av (.sl 1 (il l))),(2*1,.av (vi x)),(2*5,.av (vi i))]) (fun j hj=>by omega) ?_ ?_
 ·exact si
 ·intro i hi hP;rcases kae i l.length with hlt|hge
  ·obtain⟨z,hz⟩:∃z,l[i]?=some z:=⟨_,kaa hlt⟩;have hzr:(il l)[i]?=some [vi z]:=zcm hz;have hzl:i<(il l).length:=by simp;omega
   have hgz:l.getD i 0=z:=by simp [hz]
   have hd:decide ((i:Int)<((il l).length:Int))=true:=by simp;omega
   by_cases hx:z=x
   ·have hdx:decide (z=x)=true:=by simpa using hx
    have hF:decide (x∈l)=true:=by subst hx;simpa using kag hz
    (repeat' (first|refine sx ?_|refine aS fun P9 h9=>?_|refine aB fun P9 _ _ _ _=>?_|refine zyt ?_|(refine s2 ?_ ?_<;>intro h7<;>try omega)));refine fe ?_;rw [hF]
   ·have hdx:decide (z=x)=false:=by simpa using hx
    (repeat' (first|refine sx ?_|refine aS fun P9 h9=>?_|refine aB fun P9 _ _ _ _=>?_|refine zyt ?_|(refine s2 ?_ ?_<;>intro h7<;>try omega)));refine⟨hlt,fun j hj=>?_,?_⟩
    ·rcases kae j i with h|h
     ·exact hP j h
     ·have:j=i:=by omega
      subst this;rw [hgz];exact hx
    ·exact si
  ·have he:i=l.length:=by omega
   subst he;have hd:decide ((l.length:Int)<((il l).length:Int))=false:=by simp
   have hF:decide (x∈l)=false:=decide_eq_false fun hm=>by obtain⟨j,hj⟩:=kba hm;exact hP j (kab.1 hj).1 (by simp [hj])
   (repeat' (first|refine sx ?_|refine aS fun P9 h9=>?_|refine aB fun P9 _ _ _ _=>?_|refine zyt ?_|(refine s2 ?_ ?_<;>intro h7<;>try omega)));refine fe ?_;rw [hF]
def zie:List Int→List Int→Bool
 | [],[]=>false
 | [],_::_=>true
 | _::_,[]=>false
 | x::xs,y::ys=>if x=y then zie xs ys else decide (x<y)
theorem zwy(p q:List Int)(_hp:p.length≤100000)(hq:q.length≤100000):AFn (cx G) 118 [.sl 1 (il p),.sl 1 (il q)] (vb (zie p q)):=by
 refine zag Tryz.func118 rfl Tryz.ntmps118 rfl rfl rfl ?_ rfl;refine zab fun Q hQ=>?_;(repeat' (first|refine sx ?_|refine aS fun P9 h9=>?_|refine aB fun P9 _ _ _ _=>?_|refine zyt ?_|(refine s2 ?_ ?_<;>intro h7<;>try omega)));refine zbe (min p.length q.length) (fun i=>zie p q=zie (p.drop i) (q.drop i)) (fun i=>[(2*0,.av (.sl 1 (il p))),(2*1,.av (.sl 1 (il q))),(2*5,.av (vi i))]) rfl ?_ ?_
 ·exact si
 ·intro i hi hP;have hlp:(il p).length=p.length:=by simp
  have hlq:(il q).length=q.length:=by simp
  rcases kae i (min p.length q.length) with hlt|hge
  ·obtain⟨x,hx⟩:∃x,p[i]?=some x:=⟨_,kaa (by omega)⟩;obtain⟨y,hy⟩:∃y,q[i]?=some y:=⟨_,kaa (by omega)⟩;have hxr:(il p)[i]?=some [vi x]:=zcm hx;have hyr:(il q)[i]?=some [vi y]:=zcm hy;have hxl:i<(il p).length:=by rw [hlp];omega
   have hyl:i<(il q).length:=by rw [hlq];omega
   have hd1:decide ((i:Int)<((il p).length:Int))=true:=decide_eq_true (by rw [hlp];omega);have hd2:decide ((i:Int)<((il q).length:Int))=true:=decide_eq_true (by rw [hlq];omega);have ep:p.drop i=x::p.drop (i+1):=by rw [←List.getElem_cons_drop (h:=by omega)];congr 1;exact((kab.1 hx).2)
   have eq:q.drop i=y::q.drop (i+1):=by rw [←List.getElem_cons_drop (h:=by omega)];congr 1;exact((kab.1 hy).2)
   rw [ep,eq] at hP;have hi1:vi ((i+1:Nat):Int)=vi ((i:Int)+1):=by simp
   by_cases hxy:x=y
   ·have hdx:decide (x=y)=true:=by simpa using hxy
    (repeat' (first|refine sx ?_|refine aS fun P9 h9=>?_|refine aB fun P9 _ _ _ _=>?_|refine zyt ?_|(refine s2 ?_ ?_<;>intro h7<;>try omega)));refine⟨hlt,by rw [hP];simp [zie,hxy],?_⟩;exact si
   ·have hdx:decide (x=y)=false:=by simpa using hxy
    have hF:zie p q=decide (x<y):=by rw [hP];simp [zie,hxy]
    rw [hF] at hQ;(repeat' (first|refine sx ?_|refine aS fun P9 h9=>?_|refine aB fun P9 _ _ _ _=>?_|refine zyt ?_|(refine s2 ?_ ?_<;>intro h7<;>try omega)));refine fe ?_;rfl
  ·have hF:zie p q=decide (((il p).length:Int)<((il q).length:Int)):=by
     rw [hP,hlp,hlq];rcases Nat.le_total p.length q.length with h|h
     ·have e1:p.drop i=[]:=ka7.2 (by omega);rw [e1];cases e2:q.drop i with
      | nil=>have:=ka7.1 e2;simp [zie];omega
      | cons y ys =>
        have:i<q.length:=by
         rcases kae i q.length with h2|h2
         ·exact h2
         ·rw [ka7.2 h2] at e2;cases e2
        simp [zie];omega
     ·have e1:q.drop i=[]:=ka7.2 (by omega);rw [e1];cases p.drop i<;>simp [zie]<;>omega
   rw [hF] at hQ;rcases kae i p.length with h1|h1
   ·have hd1:decide ((i:Int)<((il p).length:Int))=true:=decide_eq_true (by rw [hlp];omega);have hd2:decide ((i:Int)<((il q).length:Int))=false:=decide_eq_false (by rw [hlq];omega);(repeat' (first|refine sx ?_|refine aS fun P9 h9=>?_|refine aB fun P9 _ _ _ _=>?_|refine zyt ?_|(refine s2 ?_ ?_<;>intro h7<;>try omega)));refine fe ?_;rfl
   ·have hd1:decide ((i:Int)<((il p).length:Int))=false:=decide_eq_false (by rw [hlp];omega);(repeat' (first|refine sx ?_|refine aS fun P9 h9=>?_|refine aB fun P9 _ _ _ _=>?_|refine zyt ?_|(refine s2 ?_ ?_<;>intro h7<;>try omega)));refine fe ?_;rfl
def zh3(p q:List Int):Bool:=decide (p.length<q.length)||(decide (p.length=q.length)&&zie p q)
theorem crk1{P G:Prop}(n:P)(h:Go.Kp.Wr P→G:=by(intro n;first|((with_reducible apply kC);first|exact gB ⟨_,zwy _ _ hp hq,.mk rfl n.p⟩|exact gK n.p|exact gS n.p)|exact⟨_,zwy _ _ hp hq,n.p⟩|exact sk n.p|exact ap n.p)):G:=h ⟨n⟩
theorem zq8(p q:List Int)(hp:p.length≤100000)(hq:q.length≤100000):AFn (cx G) 63 [.sl 1 (il p),.sl 1 (il q)] (vb (zh3 p q)):=by
 refine zag Tryz.func63 rfl Tryz.ntmps63 rfl rfl rfl ?_ rfl;refine zab fun Q hQ=>?_;have hlp:(il p).length=p.length:=by simp
 have hlq:(il q).length=q.length:=by simp
 by_cases h1:p.length<q.length
 ·have hd1:decide (((il p).length:Int)<((il q).length:Int))=true:=decide_eq_true (by rw [hlp,hlq];omega);(repeat' (first|refine sx ?_|refine aS fun P9 h9=>?_|refine aB fun P9 _ _ _ _=>?_|refine crk1 ?_|(refine s2 ?_ ?_<;>intro h7<;>try omega)));refine fe ?_;simp [zh3,h1]
 ·have hd1:decide (((il p).length:Int)<((il q).length:Int))=false:=decide_eq_false (by rw [hlp,hlq];omega);by_cases h2:p.length=q.length
  ·have hd2:decide (((il p).length:Int)=((il q).length:Int))=true:=decide_eq_true (by rw [hlp,hlq];omega);(repeat' (first|refine sx ?_|refine aS fun P9 h9=>?_|refine aB fun P9 _ _ _ _=>?_|refine crk1 ?_|(refine s2 ?_ ?_<;>intro h7<;>try omega)));refine fe ?_;simp [zh3,h2]
  ·have hd2:decide (((il p).length:Int)=((il q).length:Int))=false:=decide_eq_false (by rw [hlp,hlq];omega);(repeat' (first|refine sx ?_|refine aS fun P9 h9=>?_|refine aB fun P9 _ _ _ _=>?_|refine crk1 ?_|(refine s2 ?_ ?_<;>intro h7<;>try omega)));refine fe ?_;simp [zh3,h1,h2]
def zfu(f:Nat→Int):Nat→Int×Int
 | 0=>(f 0,f 0)
 | n+1=>(min (zfu f n).1 (f (n+1)),max (zfu f n).2 (f (n+1)))
abbrev rd0:zfo:=([],[])
def zzc(most:Int)(ss:List Slip)(ms:List SumR)(k a:Int)(i:Nat):Int:=zbo ss (zc7 ss ((zaj most ss ms).getD i rd0)) k.toNat a ss.length
def znn(most:Int)(ss:List Slip)(ms:List SumR)(k a:Int):(Int×Int)×Int :=
 if zcl most ss ms (zc8 k a)≠0 then ((0,0),zcl most ss ms (zc8 k a)) else (zfu (zzc most ss ms k a) ((zaj most ss ms).length-1),0)
theorem zvj(most:Int)(ss:List Slip)(ms:List SumR)(now:List Int)(k a:Int)(hk:0≤k)(hn:ss.length≤20)(hl:now.length=ss.length)(hb:zhn now):AFn (cx G) 29 [bk most ss ms,.sl 1 (il now),vi k,vi a] (vi (zbo ss now k.toNat a ss.length)):=by have:=zpg (G:=G) most ss ms now k a hk hn (by omega) hb;rwa [hl] at this
theorem crk2{P G:Prop}(n:P)(h:Go.Kp.Wr P→G:=by(intro n;first|((with_reducible apply kC);first|exact gB ⟨_,zf8 _ _,.mk rfl n.p⟩|exact gB ⟨_,zha hn hm hl,.mk rfl n.p⟩|exact gB ⟨_,zhb hn hm hl,.mk rfl n.p⟩|exact gB ⟨_,zey _ _ _ _ _ hn hg.slip ho.1 ho.2.1,.mk rfl n.p⟩|exact gB ⟨_,zvj most ss ms (zc7 ss (wr,sg)) k a hk hn (zb6 _ _) hab,.mk rfl n.p⟩|exact gK n.p|exact gS n.p)|exact⟨_,zf8 _ _,n.p⟩|exact⟨_,zha hn hm hl,n.p⟩|exact⟨_,zhb hn hm hl,n.p⟩|exact⟨_,zey _ _ _ _ _ hn hg.slip ho.1 ho.2.1,n.p⟩|exact⟨_,zvj most ss ms (zc7 ss (wr,sg)) k a hk hn (zb6 _ _) hab,n.p⟩|exact sk n.p|exact ap n.p)):G:=h ⟨n⟩
theorem z4a(most:Int)(ss:List Slip)(ms:List SumR)(k a:Int)(hn:ss.length≤20)(hm:ms.length≤20) :
  AFn (cx G) 7 [bk most ss ms,vi k,vi a] (.tup [.agg [vi (znn most ss ms k a).1.1,vi (znn most ss ms k a).1.2],vi (znn most ss ms k a).2]):=by
 refine zag Tryz.func7 rfl Tryz.ntmps7 rfl rfl rfl ?_ rfl
 refine zab fun Q hQ=>?_
 by_cases hl:zcl most ss ms (zc8 k a)=0
 ·obtain⟨hg,hw,hne⟩:=zk7 hl;have hk:=(zy0 hw).1;have hF:znn most ss ms k a=(zfu (zzc most ss ms k a) ((zaj most ss ms).length-1),0):=by rw [znn,if_neg (by simp [hl])]
  rw [hF] at hQ;have hpos:0<(zaj most ss ms).length:=kbn.2 hne;have hr:(rp (zaj most ss ms)).length=(zaj most ss ms).length:=by simp
  have hl6:=zjl hg;have hgen:∀i,i<(zaj most ss ms).length→∃wr sg,(zaj most ss ms)[i]?=some (wr,sg)∧(rp (zaj most ss ms))[i]?=some [.sl 1 (il wr),.sl 1 (bl sg)]∧(wr.length=ss.length∧sg.length=(zae ss ss.length).length∧zhn wr)∧zhn (zc7 ss (wr,sg))∧zzc most ss ms k a i=zbo ss (zc7 ss (wr,sg)) k.toNat a ss.length:=fun i hi=>by
   obtain⟨⟨wr,sg⟩,hx⟩:∃x,(zaj most ss ms)[i]?=some x:=⟨_,kaa hi⟩;have ho:=zd5 hg (kag hx);exact⟨wr,sg,hx,zrg hx,ho,zma ss wr sg ho.2.2 _,by simp [zzc,hx]⟩
  obtain⟨wr,sg,hx,hrow,ho,hab,hsp⟩:=hgen 0 hpos;have hil:0<(rp (zaj most ss ms)).length:=by rw [hr];exact hpos
  (repeat' (first|refine sx ?_|refine aS fun P9 h9=>?_|refine aB fun P9 _ _ _ _=>?_|refine crk2 ?_|(refine s2 ?_ ?_<;>intro h7<;>try omega)));refine zam ((zaj most ss ms).length-1) (fun i=>[(2*1,.av (vi k)),(2*2,.av (vi a)),(2*3,.av (.ptr 3 0)),(2*3+1,.cells 25 [vi most,.sl 7 (ss.map Slip.row),.sl 5 (ms.map SumR.row)]),(2*8,.av (.sl 2 (rp (zaj most ss ms)))),
   (2*11,.av (.ptr 11 0)),(2*11+1,.cells 30 [vi (zfu (zzc most ss ms k a) i).1,vi (zfu (zzc most ss ms k a) i).2]),(2*6,.av (.ptr 6 0)),(2*6+1,.cells 30 [vi 0,vi 0]),(2*12,.av (vi ((i:Int)+1)))]) ?_ ?_
  ·have e0:zfu (zzc most ss ms k a) 0=(zbo ss (zc7 ss (wr,sg)) k.toNat a ss.length,zbo ss (zc7 ss (wr,sg)) k.toNat a ss.length):=by simp only [zfu,hsp]
   rw [e0];exact si
  ·intro i hi;clear hrow hab hsp hx ho;rcases kae i ((zaj most ss ms).length-1) with hlt|hge
   ·have hd:decide ((i:Int)+1<((rp (zaj most ss ms)).length:Int))=true:=decide_eq_true (by rw [hr];omega);obtain⟨wr,sg,hx,hrow,ho,hab,hsp⟩:=hgen (i+1) (by omega);have hil2:i+1<(rp (zaj most ss ms)).length:=by rw [hr];omega
    have hii:((i:Int)+1)=((i+1:Nat):Int):=by simp
    have es:zfu (zzc most ss ms k a) (i+1)=(min (zfu (zzc most ss ms k a) i).1 (zbo ss (zc7 ss (wr,sg)) k.toNat a ss.length),max (zfu (zzc most ss ms k a) i).2 (zbo ss (zc7 ss (wr,sg)) k.toNat a ss.length)):=by simp only [zfu,hsp]
    (repeat' (first|refine sx ?_|refine aS fun P9 h9=>?_|refine aB fun P9 _ _ _ _=>?_|refine crk2 ?_|(refine s2 ?_ ?_<;>intro h7<;>try omega)));refine⟨hlt,?_⟩;rw [es];exact si
   ·have he:i=(zaj most ss ms).length-1:=by omega
    subst he;have hd:decide ((((zaj most ss ms).length-1:Nat):Int)+1<((rp (zaj most ss ms)).length:Int))=false:=decide_eq_false (by rw [hr];omega);(repeat' (first|refine sx ?_|refine aS fun P9 h9=>?_|refine aB fun P9 _ _ _ _=>?_|refine crk2 ?_|(refine s2 ?_ ?_<;>intro h7<;>try omega)));refine fe ?_;rfl
 ·have hF:znn most ss ms k a=((0,0),zcl most ss ms (zc8 k a)):=by rw [znn,if_pos hl]
  have hdl:decide (zcl most ss ms (zc8 k a)=0)=false:=by simpa using hl
  rw [hF] at hQ;(repeat' (first|refine sx ?_|refine aS fun P9 h9=>?_|refine aB fun P9 _ _ _ _=>?_|refine crk2 ?_|(refine s2 ?_ ?_<;>intro h7<;>try omega)));refine fe ?_;rfl
def zfj(most:Int)(ss:List Slip)(ms:List SumR)(sum:Int)(i:Nat):Bool:=decide (sum∈zan ss ms (zc7 ss ((zaj most ss ms).getD i rd0)))
def zf7(most:Int)(ss:List Slip)(ms:List SumR)(sum:Int):Int×Int :=
 if zcl most ss ms (zgc ms sum)≠0 then (0,zcl most ss ms (zgc ms sum)) else (zy9 (zcg (zfj most ss ms sum) (zaj most ss ms).length) (zaj most ss ms).length,0)
theorem yee{P G:Prop}(n:P)(h:Go.Kp.Wr P→G:=by(intro n;first|((with_reducible apply kC);first|exact gB ⟨_,zvc _ _ hml,.mk rfl n.p⟩|exact gB ⟨_,zha hn hm hl2,.mk rfl n.p⟩|exact gB ⟨_,zhb hn hm hl2,.mk rfl n.p⟩|exact gB ⟨_,zey _ _ _ _ _ hn hg.slip ho.1 ho.2.1,.mk rfl n.p⟩|exact gB ⟨_,ze3 most ss ms (zc7 ss (wr,sg)) hn hm (zb6 _ _) hab hg.k0,.mk rfl n.p⟩|exact gB ⟨_,z75 _ _ hwl,.mk rfl n.p⟩|exact gB ⟨_,z7j _ _,.mk rfl n.p⟩|exact gK n.p|exact gS n.p)|exact⟨_,zvc _ _ hml,n.p⟩|exact⟨_,zha hn hm hl2,n.p⟩|exact⟨_,zhb hn hm hl2,n.p⟩|exact⟨_,zey _ _ _ _ _ hn hg.slip ho.1 ho.2.1,n.p⟩|exact⟨_,ze3 most ss ms (zc7 ss (wr,sg)) hn hm (zb6 _ _) hab hg.k0,n.p⟩|exact⟨_,z75 _ _ hwl,n.p⟩|exact⟨_,z7j _ _,n.p⟩|exact sk n.p|exact ap n.p)):G:=h ⟨n⟩
theorem zyf(most:Int)(ss:List Slip)(ms:List SumR)(sum:Int)(hn:ss.length≤20)(hm:ms.length≤20) :
  AFn (cx G) 9 [bk most ss ms,vi sum] (.tup [vi (zf7 most ss ms sum).1,vi (zf7 most ss ms sum).2]):=by
 refine zag Tryz.func9 rfl Tryz.ntmps9 rfl rfl rfl ?_ rfl
 refine zab fun Q hQ=>?_
 have hml:0≤((ms.map SumR.row).length:Int)∧((ms.map SumR.row).length:Int)≤100000:=by simp;omega
 have hown:(if decide (0≤sum∧sum≤((ms.map SumR.row).length:Int)-1) then (0:Int) else 6)=zgc ms sum:=by unfold zgc;simp
 by_cases hl:zcl most ss ms (zgc ms sum)=0
 ·obtain⟨hg,hw,hne⟩:=zk7 hl;have hF:zf7 most ss ms sum=(zy9 (zcg (zfj most ss ms sum) (zaj most ss ms).length) (zaj most ss ms).length,0):=by rw [zf7,if_neg (by simp [hl])]
  rw [hF] at hQ;have hl2:zcl most ss ms (if decide (0≤sum∧sum≤((ms.map SumR.row).length:Int)-1) then (0:Int) else 6)=0:=by rw [hown];exact hl
  have hr:(rp (zaj most ss ms)).length=(zaj most ss ms).length:=by simp
  have hl6:=zjl hg;have hgen:∀i,i<(zaj most ss ms).length→∃wr sg,(zaj most ss ms)[i]?=some (wr,sg)∧(rp (zaj most ss ms))[i]?=some [.sl 1 (il wr),.sl 1 (bl sg)]∧(wr.length=ss.length∧sg.length=(zae ss ss.length).length∧zhn wr)∧zhn (zc7 ss (wr,sg))∧zfj most ss ms sum i=decide (sum∈zan ss ms (zc7 ss (wr,sg))):=fun i hi=>by
   obtain⟨⟨wr,sg⟩,hx⟩:∃x,(zaj most ss ms)[i]?=some x:=⟨_,kaa hi⟩;have ho:=zd5 hg (kag hx);exact⟨wr,sg,hx,zrg hx,ho,zma ss wr sg ho.2.2 _,by simp [zfj,hx]⟩
  (repeat' (first|refine sx ?_|refine aS fun P9 h9=>?_|refine aB fun P9 _ _ _ _=>?_|refine yee ?_|(refine s2 ?_ ?_<;>intro h7<;>try omega)))
  refine zam (zaj most ss ms).length (fun i=>[(2*1,.av (vi sum)),(2*2,.av (.ptr 2 0)),(2*2+1,.cells 25 [vi most,.sl 7 (ss.map Slip.row),.sl 5 (ms.map SumR.row)]),(2*6,.av (.sl 2 (rp (zaj most ss ms)))),(2*8,.av (vi (zcg (zfj most ss ms sum) i:Int))),(2*9,.av (vi i))]) ?_ ?_
  ·exact si
  ·intro i hi;have hcl:=zjz (zfj most ss ms sum) i;rcases kae i (zaj most ss ms).length with hlt|hge
   ·have hd:decide ((i:Int)<((rp (zaj most ss ms)).length:Int))=true:=decide_eq_true (by rw [hr];omega);obtain⟨wr,sg,hx,hrow,ho,hab,hsp⟩:=hgen i hlt;have hil2:i<(rp (zaj most ss ms)).length:=by rw [hr];omega
    have hwl:(zan ss ms (zc7 ss (wr,sg))).length≤100000:=by have:=zd8 ss ms (zc7 ss (wr,sg));omega
    have hi1:vi ((i+1:Nat):Int)=vi ((i:Int)+1):=by simp
    rcases ka1 (decide (sum∈zan ss ms (zc7 ss (wr,sg)))) with hb|hb
    ·have hs1:vi (zcg (zfj most ss ms sum) (i+1):Int)=vi ((zcg (zfj most ss ms sum) i:Int)+1):=by simp only [zcg];rw [hsp,hb];simp
     (repeat' (first|refine sx ?_|refine aS fun P9 h9=>?_|refine aB fun P9 _ _ _ _=>?_|refine yee ?_|(refine s2 ?_ ?_<;>intro h7<;>try omega)));refine⟨hlt,?_⟩;exact si
    ·have hs1:vi (zcg (zfj most ss ms sum) (i+1):Int)=vi (zcg (zfj most ss ms sum) i:Int):=by simp only [zcg];rw [hsp,hb];simp
     (repeat' (first|refine sx ?_|refine aS fun P9 h9=>?_|refine aB fun P9 _ _ _ _=>?_|refine yee ?_|(refine s2 ?_ ?_<;>intro h7<;>try omega)));refine⟨hlt,?_⟩;exact si
   ·have he:i=(zaj most ss ms).length:=by omega
    subst he;have hd:decide (((zaj most ss ms).length:Int)<((rp (zaj most ss ms)).length:Int))=false:=decide_eq_false (by rw [hr];omega);(repeat' (first|refine sx ?_|refine aS fun P9 h9=>?_|refine aB fun P9 _ _ _ _=>?_|refine yee ?_|(refine s2 ?_ ?_<;>intro h7<;>try omega)));refine fe ?_;rw [hr]
 ·have hF:zf7 most ss ms sum=(0,zcl most ss ms (zgc ms sum)):=by rw [zf7,if_pos hl]
  have hl2:zcl most ss ms (if decide (0≤sum∧sum≤((ms.map SumR.row).length:Int)-1) then (0:Int) else 6)≠0:=by rw [hown];exact hl
  have hdl:decide (zcl most ss ms (if decide (0≤sum∧sum≤((ms.map SumR.row).length:Int)-1) then (0:Int) else 6)=0)=false:=by simpa using hl2
  rw [hF,←hown] at hQ;(repeat' (first|refine sx ?_|refine aS fun P9 h9=>?_|refine aB fun P9 _ _ _ _=>?_|refine yee ?_|(refine s2 ?_ ?_<;>intro h7<;>try omega)));refine fe ?_;rfl
end
section
variable{G:zbf}
attribute [local irreducible] AOp AW ADr AFn ze1 AFt AOpJ
set_option maxRecDepth 20000
set_option maxHeartbeats 8000000
theorem zze{G:zbf}{N:Nat}{s:AS}(t wd:Nat)(ht:zac s (2*t)=some (.av (.val (.slice none 0 0)))):Sub G N s ((2*t,.av (.sl wd []))::s):=fun w0 a w E hr=>by
 refine⟨E,hr.sz,hr.df,hr.dfo,fun t' x hx=>?_,fun j c hc=>hr.mem j c (by rw [zaa,if_neg (by omega)] at hc;exact hc),fun j k b hjk hb=>?_,fun j b hb=>hr.new j b (by rw [zaa,if_neg (by omega)] at hb;exact hb),hr.imm,hr.ext,hr.old,fun k c hk j hj=>?_,hr.glb⟩
 ·rw [zaa] at hx;split at hx
  ·cases hx;have:t'=t:=by omega
   subst this;rw [(hr.tmp _ _ ht).val_eq];exact .nil wd
  ·exact hr.tmp t' x hx
 ·rw [zaa,if_neg (by omega)] at hb ⊢;exact hr.dis j k b hjk hb
 ·rw [zaa,if_neg (by omega)];rw [zaa] at hk;split at hk
  ·cases hk;simp [za7.ids,AV.ids] at hj
  ·exact hr.scp k c hk j hj
def zi0(ss:List Slip)(ms:List SumR)(p:zfo):Bool:=zf9 ss (zc7 ss p)&&!zse ms (zan ss ms (zc7 ss p))
def zp8(ss:List Slip)(ms:List SumR)(ps:List zfo):Nat→Option (List Int)
 | 0=>none
 | n+1=>if zi0 ss ms (ps.getD n rd0)=true then
    match zp8 ss ms ps n with
    | none=>some (zan ss ms (zc7 ss (ps.getD n rd0)))
    | some b=>if zh3 (zan ss ms (zc7 ss (ps.getD n rd0))) b=true then some (zan ss ms (zc7 ss (ps.getD n rd0))) else some b
   else zp8 ss ms ps n
theorem z1x(ss:List Slip)(ms:List SumR)(ps:List zfo):∀n,((zp8 ss ms ps n).getD []).length≤ms.length
 | 0=>by simp [zp8]
 | n+1=>by
   have ih:=z1x ss ms ps n;have hw:=zd8 ss ms (zc7 ss (ps.getD n rd0));unfold zp8;split
   ·split
    ·simpa using hw
    ·rename_i b hb;rw [hb] at ih;split
     ·simpa using hw
     ·exact ih
   ·exact ih
def zcf(most:Int)(ss:List Slip)(ms:List SumR):List Int×Int :=
 if zak most ss ms≠0 then ([],zak most ss ms) else match zp8 ss ms (zds ss) (zds ss).length with
  | none=>([],9)
  | some b=>(b,0)
theorem zrr{α:Type}{x:Option α}:x=none∨∃b,x=some b:=by cases x with|none=>exact .inl rfl|some b=>exact .inr ⟨b,rfl⟩
theorem z6d{P G:Prop}(n:P)(h:Go.Kp.Wr P→G:=by(intro n;first|((with_reducible apply kC);first|exact gB ⟨_,zg8 _ _ _ hn hm,.mk rfl n.p⟩|exact gB ⟨_,zqg hg,.mk rfl n.p⟩|exact gB ⟨_,zey _ _ _ _ _ hn hg.slip ho.1 ho.2.1,.mk rfl n.p⟩|exact gB ⟨_,ze3 most ss ms (zc7 ss (wr,sg)) hn hm (zb6 _ _) hab hg.k0,.mk rfl n.p⟩|exact gB ⟨_,zll most ss ms (zc7 ss (wr,sg)) hn (by rw [zb6];exact kac _) hab,.mk rfl n.p⟩|exact gB ⟨_,zwi _ _ _ _ hwl (zd9 _ _ _),.mk rfl n.p⟩|exact gB ⟨_,zq8 _ _ hwl hbl,.mk rfl n.p⟩|exact gK n.p|exact gS n.p)|exact⟨_,zg8 _ _ _ hn hm,n.p⟩|exact⟨_,zqg hg,n.p⟩|exact⟨_,zey _ _ _ _ _ hn hg.slip ho.1 ho.2.1,n.p⟩|exact⟨_,ze3 most ss ms (zc7 ss (wr,sg)) hn hm (zb6 _ _) hab hg.k0,n.p⟩|exact⟨_,zll most ss ms (zc7 ss (wr,sg)) hn (by rw [zb6];exact kac _) hab,n.p⟩|exact⟨_,zwi _ _ _ _ hwl (zd9 _ _ _),n.p⟩|exact⟨_,zq8 _ _ hwl hbl,n.p⟩|exact sk n.p|exact ap n.p)):G:=h ⟨n⟩
theorem zui(most:Int)(ss:List Slip)(ms:List SumR)(hn:ss.length≤20)(hm:ms.length≤20) :
  AFn (cx G) 11 [bk most ss ms] (if zcf most ss ms=([],9)∨zak most ss ms≠0 then .tup [.val (.slice none 0 0),vi (zcf most ss ms).2] else .tup [.sl 1 (il (zcf most ss ms).1),vi 0]):=by
 have hids:(if zcf most ss ms=([],9)∨zak most ss ms≠0 then AV.tup [.val (.slice none 0 0),vi (zcf most ss ms).2] else .tup [.sl 1 (il (zcf most ss ms).1),vi 0]).ids=[]:=by split<;>rfl
 refine zag Tryz.func11 rfl Tryz.ntmps11 rfl rfl rfl ?_ hids
 refine zab fun Q hQ=>?_
 by_cases hc:zak most ss ms=0
 ·have hg:=(za2 most ss ms).1 hc;have hd1:decide (zak most ss ms=0)=true:=by simpa using hc
  have hal:=zqn hg;have hr:(rp (zds ss)).length=(zds ss).length:=by simp
  (repeat' (first|refine sx ?_|refine aS fun P9 h9=>?_|refine aB fun P9 _ _ _ _=>?_|refine z6d ?_|(refine s2 ?_ ?_<;>intro h7<;>try omega)));refine zbx (zze 6 1 rfl) ?_
  refine zam (zds ss).length (fun i=>[(2*1,.av (.ptr 1 0)),(2*1+1,.cells 25 [vi most,.sl 7 (ss.map Slip.row),.sl 5 (ms.map SumR.row)]),(2*5,.av (.sl 2 (rp (zds ss)))),(2*6,.av (.sl 1 (il ((zp8 ss ms (zds ss) i).getD [])))),(2*7,.av (vb (zp8 ss ms (zds ss) i).isSome)),(2*8,.av (vi i))]) ?_ ?_
  ·exact si
  ·intro i hi;rcases kae i (zds ss).length with hlt|hge
   ·obtain⟨⟨wr,sg⟩,hp⟩:∃p,(zds ss)[i]?=some p:=⟨_,kaa hlt⟩;have hrow:=zrg hp;have hil:i<(rp (zds ss)).length:=by rw [hr];exact hlt
    have ho:=zuu hg.lo _ (kag hp);have hab:zhn (zc7 ss (wr,sg)):=zma ss wr sg ho.2.2 ss.length;have hgp:(zds ss).getD i rd0=(wr,sg):=by simp [hp]
    have hd:decide ((i:Int)<((rp (zds ss)).length:Int))=true:=decide_eq_true (by rw [hr];omega);have hi1:vi ((i+1:Nat):Int)=vi ((i:Int)+1):=by simp
    have hwl:(zan ss ms (zc7 ss (wr,sg))).length≤100000:=by have:=zd8 ss ms (zc7 ss (wr,sg));omega
    have hsucc:zp8 ss ms (zds ss) (i+1)=if zi0 ss ms (wr,sg)=true then
   match zp8 ss ms (zds ss) i with
   | none=>some (zan ss ms (zc7 ss (wr,sg)))
   | some b=>if zh3 (zan ss ms (zc7 ss (wr,sg))) b=true then some (zan ss ms (zc7 ss (wr,sg))) else some b
  else zp8 ss ms (zds ss) i:=by rw [←hgp];rfl
    rcases ka1 (zf9 ss (zc7 ss (wr,sg))) with hb1|hb1
    ·rcases ka1 (zse ms (zan ss ms (zc7 ss (wr,sg)))) with hb2|hb2
     ·have hk:zi0 ss ms (wr,sg)=false:=by simp [zi0,hb1,hb2]
      rw [if_neg (by rw [hk];simp)] at hsucc;(repeat' (first|refine sx ?_|refine aS fun P9 h9=>?_|refine aB fun P9 _ _ _ _=>?_|refine z6d ?_|(refine s2 ?_ ?_<;>intro h7<;>try omega)));refine⟨hlt,?_⟩;rw [hsucc];exact si
     ·have hk:zi0 ss ms (wr,sg)=true:=by simp [zi0,hb1,hb2]
      rw [if_pos hk] at hsucc;have hbl:=z1x ss ms (zds ss) i;rcases zrr (x:=zp8 ss ms (zds ss) i) with hf|⟨b,hf⟩
      ·rw [hf] at hsucc ⊢;(repeat' (first|refine sx ?_|refine aS fun P9 h9=>?_|refine aB fun P9 _ _ _ _=>?_|refine z6d ?_|(refine s2 ?_ ?_<;>intro h7<;>try omega)));refine⟨hlt,?_⟩;rw [hsucc];exact si
      ·rw [hf] at hsucc hbl ⊢;have hbl:b.length≤100000:=by simp at hbl;omega
       dsimp only at hsucc;rcases ka1 (zh3 (zan ss ms (zc7 ss (wr,sg))) b) with hs|hs
       ·rw [if_pos hs] at hsucc;(repeat' (first|refine sx ?_|refine aS fun P9 h9=>?_|refine aB fun P9 _ _ _ _=>?_|refine z6d ?_|(refine s2 ?_ ?_<;>intro h7<;>try omega)));refine⟨hlt,?_⟩;rw [hsucc];exact si
       ·rw [if_neg (by rw [hs];simp)] at hsucc;(repeat' (first|refine sx ?_|refine aS fun P9 h9=>?_|refine aB fun P9 _ _ _ _=>?_|refine z6d ?_|(refine s2 ?_ ?_<;>intro h7<;>try omega)));refine⟨hlt,?_⟩;rw [hsucc];exact si
    ·have hk:zi0 ss ms (wr,sg)=false:=by simp [zi0,hb1]
     rw [if_neg (by rw [hk];simp)] at hsucc;(repeat' (first|refine sx ?_|refine aS fun P9 h9=>?_|refine aB fun P9 _ _ _ _=>?_|refine z6d ?_|(refine s2 ?_ ?_<;>intro h7<;>try omega)));refine⟨hlt,?_⟩;rw [hsucc];exact si
   ·have he:i=(zds ss).length:=by omega
    subst he;have hd:decide (((zds ss).length:Int)<((rp (zds ss)).length:Int))=false:=decide_eq_false (by rw [hr];omega);rcases zrr (x:=zp8 ss ms (zds ss) (zds ss).length) with hf|⟨b,hf⟩
    ·have hF:zcf most ss ms=([],9):=by simp [zcf,hc,hf]
     rw [if_pos (.inl hF),hF] at hQ;rw [hf];(repeat' (first|refine sx ?_|refine aS fun P9 h9=>?_|refine aB fun P9 _ _ _ _=>?_|refine z6d ?_|(refine s2 ?_ ?_<;>intro h7<;>try omega)));refine fe ?_;rfl
    ·have hF:zcf most ss ms=(b,0):=by simp [zcf,hc,hf]
     rw [if_neg (by rw [hF];simp [hc]),hF] at hQ;rw [hf];(repeat' (first|refine sx ?_|refine aS fun P9 h9=>?_|refine aB fun P9 _ _ _ _=>?_|refine z6d ?_|(refine s2 ?_ ?_<;>intro h7<;>try omega)));refine fe ?_;rfl
 ·have hd1:decide (zak most ss ms=0)=false:=by simpa using hc
  have hF:zcf most ss ms=([],zak most ss ms):=by simp [zcf,hc]
  rw [if_pos (.inr hc),hF] at hQ;(repeat' (first|refine sx ?_|refine aS fun P9 h9=>?_|refine aB fun P9 _ _ _ _=>?_|refine z6d ?_|(refine s2 ?_ ?_<;>intro h7<;>try omega)));refine fe ?_;rfl
end
section
variable{G:zbf}
attribute [local irreducible] AOp AW ADr AFn ze1 AFt AOpJ
set_option maxRecDepth 20000
set_option maxHeartbeats 8000000
def za0(l:List Int)(i k:Nat):Bool:=decide (l.getD k 0=l.getD i 0)
def zgr(l:List Int):Nat→Nat
 | 0=>0
 | n+1=>max (zgr l n) (zcg (za0 l n) l.length)
theorem z7x(l:List Int)(hl:l.length≤100000):AFn (cx G) 64 [.sl 1 (il l)] (vi (zgr l l.length:Int)):=by
 refine zag Tryz.func64 rfl Tryz.ntmps64 rfl rfl rfl ?_ rfl;refine zab fun Q hQ=>?_;have hr:(il l).length=l.length:=by simp
 (repeat' (first|refine sx ?_|refine aS fun P9 h9=>?_|refine aB fun P9 _ _ _ _=>?_|refine w0 ?_|(refine s2 ?_ ?_<;>intro h7<;>try omega)));refine zam l.length (fun i=>[(2*0,.av (.sl 1 (il l))),(2*3,.av (vi (zgr l i:Int))),(2*4,.av (vi i))]) ?_ ?_
 ·exact si
 ·intro i hi;rcases kae i l.length with hlt|hge
  ·obtain⟨z,hz⟩:∃z,l[i]?=some z:=⟨_,kaa hlt⟩;have hzr:(il l)[i]?=some [vi z]:=zcm hz;have hzl:i<(il l).length:=by rw [hr];exact hlt
   have hgz:l.getD i 0=z:=by simp [hz]
   have hd:decide ((i:Int)<((il l).length:Int))=true:=decide_eq_true (by rw [hr];omega);have hi1:vi ((i+1:Nat):Int)=vi ((i:Int)+1):=by simp
   (repeat' (first|refine sx ?_|refine aS fun P9 h9=>?_|refine aB fun P9 _ _ _ _=>?_|refine w0 ?_|(refine s2 ?_ ?_<;>intro h7<;>try omega)));refine zam l.length (fun k=>[(2*0,.av (.sl 1 (il l))),(2*3,.av (vi (zgr l i:Int))),(2*4,.av (vi i)),(2*5,.av (vi (zcg (za0 l i) k:Int))),(2*6,.av (vi k))]) ?_ ?_
   ·exact si
   ·intro k hk;have hcl:=zjz (za0 l i) k;rcases kae k l.length with hkl|hkg
    ·obtain⟨y,hy⟩:∃y,l[k]?=some y:=⟨_,kaa hkl⟩;have hyr:(il l)[k]?=some [vi y]:=zcm hy;have hyl:k<(il l).length:=by rw [hr];exact hkl
     have hgy:l.getD k 0=y:=by simp [hy]
     have hdk:decide ((k:Int)<((il l).length:Int))=true:=decide_eq_true (by rw [hr];omega);have hk1:vi ((k+1:Nat):Int)=vi ((k:Int)+1):=by simp
     by_cases hyz:y=z
     ·have hde:decide (y=z)=true:=by simpa using hyz
      have hs1:vi (zcg (za0 l i) (k+1):Int)=vi ((zcg (za0 l i) k:Int)+1):=by
       have hsa:za0 l i k=true:=by unfold za0;rw [hgy,hgz];exact hde
       simp [zcg,hsa]
      (repeat' (first|refine sx ?_|refine aS fun P9 h9=>?_|refine aB fun P9 _ _ _ _=>?_|refine w0 ?_|(refine s2 ?_ ?_<;>intro h7<;>try omega)));refine⟨hkl,?_⟩;exact si
     ·have hde:decide (y=z)=false:=by simpa using hyz
      have hs1:vi (zcg (za0 l i) (k+1):Int)=vi (zcg (za0 l i) k:Int):=by
       have hsa:za0 l i k=false:=by unfold za0;rw [hgy,hgz];exact hde
       simp [zcg,hsa]
      (repeat' (first|refine sx ?_|refine aS fun P9 h9=>?_|refine aB fun P9 _ _ _ _=>?_|refine w0 ?_|(refine s2 ?_ ?_<;>intro h7<;>try omega)));refine⟨hkl,?_⟩;exact si
    ·have he:k=l.length:=by omega
     subst he;have hdk:decide ((l.length:Int)<((il l).length:Int))=false:=decide_eq_false (by rw [hr];omega);have hm1:vi (zgr l (i+1):Int)=vi (max (zgr l i:Int) (zcg (za0 l i) l.length:Int)):=by simp only [zgr];congr 2;omega
     (repeat' (first|refine sx ?_|refine aS fun P9 h9=>?_|refine aB fun P9 _ _ _ _=>?_|refine w0 ?_|(refine s2 ?_ ?_<;>intro h7<;>try omega)));refine⟨hlt,?_⟩;exact si
  ·have he:i=l.length:=by omega
   subst he;have hd:decide ((l.length:Int)<((il l).length:Int))=false:=decide_eq_false (by rw [hr];omega);(repeat' (first|refine sx ?_|refine aS fun P9 h9=>?_|refine aB fun P9 _ _ _ _=>?_|refine w0 ?_|(refine s2 ?_ ?_<;>intro h7<;>try omega)));refine fe ?_;rfl
def zql(ss:List Slip)(ps:List zfo)(slip:Nat):List Int:=ps.map fun p=>(zc7 ss p).getD slip 0
theorem crm0{P G:Prop}(n:P)(h:Go.Kp.Wr P→G:=by(intro n;first|((with_reducible apply kC);first|exact gB ⟨_,zey _ _ _ _ _ hn hok ho.1 ho.2,.mk rfl n.p⟩|exact gK n.p|exact gS n.p)|exact⟨_,zey _ _ _ _ _ hn hok ho.1 ho.2,n.p⟩|exact sk n.p|exact ap n.p)):G:=h ⟨n⟩
theorem zo2(most:Int)(ss:List Slip)(ms:List SumR)(ps:List zfo)(slip:Nat)(hn:ss.length≤20)(hs:slip<ss.length)(hps:ps.length≤100000)(hok:∀(i:Nat) (s:Slip),ss[i]?=some s→zne ss i s)(hp:∀p∈ps,p.1.length=ss.length∧p.2.length=(zae ss ss.length).length) :
  AFn (cx G) 65 [bk most ss ms,.sl 2 (rp ps),vi slip] (.sl 1 (il (zql ss ps slip))):=by
 refine zag Tryz.func65 rfl Tryz.ntmps65 rfl rfl rfl ?_ rfl
 refine zab fun Q hQ=>?_
 have hr:(rp ps).length=ps.length:=by simp
 (repeat' (first|refine sx ?_|refine aS fun P9 h9=>?_|refine aB fun P9 _ _ _ _=>?_|refine crm0 ?_|(refine s2 ?_ ?_<;>intro h7<;>try omega)))
 refine zbx (zbd 7 1000 1 3 rfl rfl) ?_
 refine zam ps.length (fun i=>[(2*3,.av (.ptr 3 0)),(2*3+1,.cells 25 [vi most,.sl 7 (ss.map Slip.row),.sl 5 (ms.map SumR.row)]),(2*1,.av (.sl 2 (rp ps))),(2*2,.av (vi slip)),(2*7,.av (.own 1000)),(2*1000+1,.buf 1 3 (il (zql ss (ps.take i) slip))),(2*8,.av (vi i))]) ?_ ?_
 ·exact si
 ·intro i hi;rcases kae i ps.length with hlt|hge
  ·obtain⟨⟨wr,sg⟩,hx⟩:∃p,ps[i]?=some p:=⟨_,kaa hlt⟩;have hrow:=zrg hx;have hil:i<(rp ps).length:=by rw [hr];exact hlt
   have ho:=hp _ (kag hx);have hd:decide ((i:Int)<((rp ps).length:Int))=true:=decide_eq_true (by rw [hr];omega);have hi1:vi ((i+1:Nat):Int)=vi ((i:Int)+1):=by simp
   have hnl:=zb6 ss (wr,sg);obtain⟨z,hz⟩:∃z,(zc7 ss (wr,sg))[slip]?=some z:=⟨_,kaa (by omega)⟩;have hzr:(il (zdv ss wr sg ss.length).1)[slip]?=some [vi z]:=zcm hz;have hzl:slip<(il (zdv ss wr sg ss.length).1).length:=by rw [ka6];show slip<(zc7 ss (wr,sg)).length;omega
   have hgz:(zc7 ss (wr,sg)).getD slip 0=z:=by simp [hz]
   have h1000:(il (zql ss (ps.take i) slip)).length+[[vi z]].length≤1000000000:=by simp [zql];omega
   have hsucc:il (zql ss (ps.take (i+1)) slip)=il (zql ss (ps.take i) slip)++[[vi z]]:=by rw [kb8,hx];simp only [zql,Option.toList,il,kbt,kbq,List.map_nil,hgz]
   (repeat' (first|refine sx ?_|refine aS fun P9 h9=>?_|refine aB fun P9 _ _ _ _=>?_|refine crm0 ?_|(refine s2 ?_ ?_<;>intro h7<;>try omega)));refine⟨hlt,?_⟩;refine zbg (rn1 1000 26) ?_ rfl rfl;exact sr
  ·have he:i=ps.length:=by omega
   subst he;have hd:decide ((ps.length:Int)<((rp ps).length:Int))=false:=decide_eq_false (by rw [hr];omega);(repeat' (first|refine sx ?_|refine aS fun P9 h9=>?_|refine aB fun P9 _ _ _ _=>?_|refine crm0 ?_|(refine s2 ?_ ?_<;>intro h7<;>try omega)));refine fe ?_;rw [kdl]
def zhj(g:Nat→Nat)(n0:Nat):Nat→Int×Nat
 | 0=>(-1,n0)
 | i+1=>if g i<(zhj g n0 i).2 then ((i:Int),g i) else zhj g n0 i
def zst(most:Int)(ss:List Slip)(ms:List SumR)(i:Nat):Nat:=zgr (zql ss (zaj most ss ms) i) (zql ss (zaj most ss ms) i).length
def znr(most:Int)(ss:List Slip)(ms:List SumR):(Int×Int)×Int :=
 if zcl most ss ms 0≠0 then ((0,0),zcl most ss ms 0) else (((zhj (zst most ss ms) (zaj most ss ms).length ss.length).1,((zhj (zst most ss ms) (zaj most ss ms).length ss.length).2:Int)),0)
theorem yed{P G:Prop}(n:P)(h:Go.Kp.Wr P→G:=by(intro n;first|((with_reducible apply kC);first|exact gB ⟨_,zha hn hm hl,.mk rfl n.p⟩|exact gB ⟨_,zhb hn hm hl,.mk rfl n.p⟩|exact gB ⟨_,zo2 most ss ms (zaj most ss ms) i hn hlt hpl hg.slip (fun p hp=>⟨(zd5 hg hp).1,(zd5 hg hp).2.1⟩),.mk rfl n.p⟩|exact gB ⟨_,z7x _ hal,.mk rfl n.p⟩|exact gK n.p|exact gS n.p)|exact⟨_,zha hn hm hl,n.p⟩|exact⟨_,zhb hn hm hl,n.p⟩|exact⟨_,zo2 most ss ms (zaj most ss ms) i hn hlt hpl hg.slip (fun p hp=>⟨(zd5 hg hp).1,(zd5 hg hp).2.1⟩),n.p⟩|exact⟨_,z7x _ hal,n.p⟩|exact sk n.p|exact ap n.p)):G:=h ⟨n⟩
theorem z6t(most:Int)(ss:List Slip)(ms:List SumR)(hn:ss.length≤20)(hm:ms.length≤20) :
  AFn (cx G) 14 [bk most ss ms] (.tup [vi (znr most ss ms).1.1,vi (znr most ss ms).1.2,vi (znr most ss ms).2]):=by
 refine zag Tryz.func14 rfl Tryz.ntmps14 rfl rfl rfl ?_ rfl
 refine zab fun Q hQ=>?_
 by_cases hl:zcl most ss ms 0=0
 ·obtain⟨hg,_,hne⟩:=zk7 hl;have hF:znr most ss ms=(((zhj (zst most ss ms) (zaj most ss ms).length ss.length).1,((zhj (zst most ss ms) (zaj most ss ms).length ss.length).2:Int)),0):=by rw [znr,if_neg (by simp [hl])]
  rw [hF] at hQ;have hr:(rp (zaj most ss ms)).length=(zaj most ss ms).length:=by simp
  have hpl:(zaj most ss ms).length≤100000:=by have:=zjl hg;omega
  have hal:∀i,(zql ss (zaj most ss ms) i).length≤100000:=fun i=>by simpa [zql] using hpl
  have hrs:(ss.map Slip.row).length=ss.length:=by simp
  (repeat' (first|refine sx ?_|refine aS fun P9 h9=>?_|refine aB fun P9 _ _ _ _=>?_|refine yed ?_|(refine s2 ?_ ?_<;>intro h7<;>try omega)))
  refine zam ss.length (fun i=>[(2*1,.av (.ptr 1 0)),(2*1+1,.cells 25 [vi most,.sl 7 (ss.map Slip.row),.sl 5 (ms.map SumR.row)]),(2*5,.av (.sl 2 (rp (zaj most ss ms)))),(2*7,.av (vi (zhj (zst most ss ms) (zaj most ss ms).length i).1)),(2*8,.av (vi ((zhj (zst most ss ms) (zaj most ss ms).length i).2:Int))),(2*9,.av (vi i))]) ?_ ?_
  ·have e0:vi ((zhj (zst most ss ms) (zaj most ss ms).length 0).2:Int)=vi ((rp (zaj most ss ms)).length:Int):=by rw [hr];rfl
   have e1:vi (zhj (zst most ss ms) (zaj most ss ms).length 0).1=vi (-1):=rfl;exact si
  ·intro i hi;rcases kae i ss.length with hlt|hge
   ·have hd:decide ((i:Int)<((ss.map Slip.row).length:Int))=true:=decide_eq_true (by rw [hrs];omega);have hi1:vi ((i+1:Nat):Int)=vi ((i:Int)+1):=by simp
    have hal:=hal i;by_cases hlt2:zst most ss ms i<(zhj (zst most ss ms) (zaj most ss ms).length i).2
    ·have hd2:decide ((zgr (zql ss (zaj most ss ms) i) (zql ss (zaj most ss ms) i).length:Int)<((zhj (zst most ss ms) (zaj most ss ms).length i).2:Int))=true:=decide_eq_true (Int.ofNat_lt.2 hlt2);have hsucc:zhj (zst most ss ms) (zaj most ss ms).length (i+1)=((i:Int),zgr (zql ss (zaj most ss ms) i) (zql ss (zaj most ss ms) i).length):=by unfold zhj;rw [if_pos hlt2];rfl
     (repeat' (first|refine sx ?_|refine aS fun P9 h9=>?_|refine aB fun P9 _ _ _ _=>?_|refine yed ?_|(refine s2 ?_ ?_<;>intro h7<;>try omega)));refine⟨hlt,?_⟩;rw [hsucc];exact si
    ·have hd2:decide ((zgr (zql ss (zaj most ss ms) i) (zql ss (zaj most ss ms) i).length:Int)<((zhj (zst most ss ms) (zaj most ss ms).length i).2:Int))=false:=decide_eq_false fun h=>hlt2 (Int.ofNat_lt.1 h);have hsucc:zhj (zst most ss ms) (zaj most ss ms).length (i+1)=zhj (zst most ss ms) (zaj most ss ms).length i:=by rw [zhj];rw [if_neg hlt2]
     (repeat' (first|refine sx ?_|refine aS fun P9 h9=>?_|refine aB fun P9 _ _ _ _=>?_|refine yed ?_|(refine s2 ?_ ?_<;>intro h7<;>try omega)));refine⟨hlt,?_⟩;rw [hsucc];exact si
   ·have he:i=ss.length:=by omega
    subst he;have hd:decide ((ss.length:Int)<((ss.map Slip.row).length:Int))=false:=decide_eq_false (by rw [hrs];omega);(repeat' (first|refine sx ?_|refine aS fun P9 h9=>?_|refine aB fun P9 _ _ _ _=>?_|refine yed ?_|(refine s2 ?_ ?_<;>intro h7<;>try omega)));refine fe ?_;rfl
 ·have hF:znr most ss ms=((0,0),zcl most ss ms 0):=by rw [znr,if_pos hl]
  have hdl:decide (zcl most ss ms 0=0)=false:=by simpa using hl
  rw [hF] at hQ;(repeat' (first|refine sx ?_|refine aS fun P9 h9=>?_|refine aB fun P9 _ _ _ _=>?_|refine yed ?_|(refine s2 ?_ ?_<;>intro h7<;>try omega)));refine fe ?_;rfl
end
end Go.Ab.J
