/- What all laws about sales rest on, beside any goroutines. Conditions: none. -/
import Derived.Test.YtfgciihkmemdlaaGreatDoorZD
import Derived.Laws.Bits64b
import Derived.Laws.Shifts
import Derived.Sort.LotD5
namespace Go.Ab
open Go Go.RowKit
section
variable{C:Cx}{N:Nat}{s:AS}{d:Nat}{ty:TypeId}{pos:String}{af:Array Edge}{g:Option (Nat×Bool)}{x y:Operand}{t t':TypeId}{k':IntKind}{m n p q:Nat}
theorem yo3{mi ni:Int}(hd:d<N)(hx:ev s x=some (.val (.int .u64 mi)))(hy:ev s y=some (.val (.int .u64 ni)))(em:mi=(m:Int))(en:ni=(n:Int))(hm:m<18446744073709551616)(hn:n<18446744073709551616):AOp C N ⟨some d,.binOp .xor t x y t',ty,pos,af,g⟩ (rds x++rds y) s [(2*d,.av (.val (.int .u64 ((m ^^^ n:Nat):Int))))] :=
 zb2 hd hx hy λρ w e1 e2=>by subst em;subst en;simp [execOp,e1,e2,eqGuard,binOp,intBits_xor,bits_xor_u64_nat _ _ hm hn]
theorem ymu{mi ni:Int}{r:Nat}(hd:d<N)(hx:ev s x=some (.val (.int .u64 mi)))(hy:ev s y=some (.val (.int .u64 ni)))(em:mi=(m:Int))(en:ni=(n:Int))(hm:m<18446744073709551616)(hn:n<18446744073709551616)(er:m&&& n=r):AOp C N ⟨some d,.binOp .and t x y t',ty,pos,af,g⟩ (rds x++rds y) s [(2*d,.av (.val (.int .u64 (r:Int))))] :=
 zb2 hd hx hy λρ w e1 e2=>by subst em;subst en;subst er;simp [execOp,e1,e2,eqGuard,binOp,intBits_and,bits_and_u64_nat _ _ hm hn]
theorem ynt{mi ni:Int}(hd:d<N)(hx:ev s x=some (.val (.int .u64 mi)))(hy:ev s y=some (.val (.int k' ni)))(em:mi=(m:Int))(en:ni=(n:Int))(hn:n<=64)(hp:2 ^ n=p):AOp C N ⟨some d,.binOp .shl t x y t',ty,pos,af,g⟩ (rds x++rds y) s [(2*d,.av (.val (.int .u64 ((m*p % 18446744073709551616:Nat):Int))))] :=
 zb2 hd hx hy λρ w e1 e2=>by
  have h:min n 64=n:=oc
  subst hp;subst em;subst en;simp [execOp,e1,e2,eqGuard,binOp,IntKind.wrap_u64]
theorem yns{mi ni:Int}(hd:d<N)(hx:ev s x=some (.val (.int .u64 mi)))(hy:ev s y=some (.val (.int k' ni)))(em:mi=(m:Int))(en:ni=(n:Int))(hn:n<=64)(hp:2 ^ n=p):AOp C N ⟨some d,.binOp .shr t x y t',ty,pos,af,g⟩ (rds x++rds y) s [(2*d,.av (.val (.int .u64 ((m / p:Nat):Int))))] :=
 zb2 hd hx hy λρ w e1 e2=>by
  have h:min n 64=n:=oc
  subst hp;subst em;subst en;simp [execOp,e1,e2,eqGuard,binOp]
theorem yli{z:Int}(h:0<=z/\z<18446744073709551616):inI .u64 z:=by unfold inI;rw [IntKind.wrap_u64];omega
theorem inU8{z:Int}(h:0<=z/\z<256):inI .u8 z:=by unfold inI;simp [IntKind.wrap,IntKind.bits,IntKind.signed];omega
end
end Go.Ab
namespace Go.Ab.J
open Go Go.Proofs Go.Kp
open Go.Sort (swp ltInt xorNextN bitsLen)
variable{G:zbf}
theorem ylw:∀x:Fin 256,(⟨#[0,1,2,2,3,3,3,3,4,4,4,4,4,4,4,4,5,5,5,5,5,5,5,5,5,5,5,5,5,5,5,5,6,6,6,6,6,6,6,6,6,6,6,6,6,6,6,6,6,6,6,6,6,6,6,6,6,6,6,6,6,6,6,6,7,7,7,7,7,7,7,7,7,7,7,7,7,7,7,7,7,7,7,7,7,7,7,7,7,7,7,7,7,7,7,7,7,7,7,7,7,7,7,7,7,7,7,7,7,7,7,7,7,7,7,7,7,7,7,7,7,7,7,7,7,7,7,7,8,8,8,8,8,8,8,8,8,8,8,8,8,8,8,8,8,8,8,8,8,8,8,8,8,8,8,8,8,8,8,8,8,8,8,8,8,8,8,8,8,8,8,8,8,8,8,8,8,8,8,8,8,8,8,8,8,8,8,8,8,8,8,8,8,8,8,8,8,8,8,8,8,8,8,8,8,8,8,8,8,8,8,8,8,8,8,8,8,8,8,8,8,8,8,8,8,8,8,8,8,8,8,8,8,8,8,8,8,8,8,8,8,8,8,8,8,8,8,8,8,8,8,8,8,8,8,8]⟩:ByteArray)[x.val]?=some (UInt8.ofNat (bitsLen x.val)):=by decide +kernel
theorem yn9{n:Nat}(h:256<=n):bitsLen n=bitsLen (n / 256)+8:=by
 have h1:bitsLen n<=bitsLen (n / 256)+8:=by rw [Go.Sort.bitsLen_le_iff];have:=Go.Sort.lt_two_pow_bitsLen (n / 256);rw [Nat.pow_add];omega
 have h2:8<bitsLen n:=by have:=mt (Go.Sort.bitsLen_le_iff n 8).1;omega
 have h3:bitsLen (n / 256)<=bitsLen n-8:=by rw [Go.Sort.bitsLen_le_iff];have:=Go.Sort.lt_two_pow_bitsLen n;rw [show bitsLen n=bitsLen n-8+8 by omega,Nat.pow_add] at this;omega
 omega
theorem yk4{n:Nat}(h:n<256):bitsLen n<=8:=by rw [Go.Sort.bitsLen_le_iff];omega
theorem ynp{n:Nat}(h:n<256):((UInt8.ofNat (bitsLen n)).toNat:Int)=(bitsLen n:Int):=by have:=yk4 h;simp;omega
attribute [local irreducible] AOp AW ADr AFn ze1 AFt AOpJ
set_option maxRecDepth 20000
set_option maxHeartbeats 16000000
theorem esd0{G:Prop}(h:G:=by((repeat' (first|refine g1 ?_ om ⟨yns (m:=n) (n:=8) (p:=256) oe rfl rfl (by first|exact rfl|assumption) rfl oe rfl,z11 rfl rfl rfl rfl rfl⟩|refine g1 ?_ om ⟨z3j oe rfl rfl rfl (inU8 oc),zsj rfl rfl rfl rfl⟩|refine gY ?_ oG ⟨yfa (b:=UInt8.ofNat (bitsLen (n / 256))) oe rfl rfl ot oc (ylw ⟨n / 256,hq⟩),zuk⟩|refine gY ?_ oG ⟨yfa (b:=UInt8.ofNat (bitsLen n)) oe rfl rfl ot oc (ylw ⟨n,hq⟩),zuk⟩|refine sy ?_|(refine aZ ?_;intros)|refine w0 ?_|fail));exact hQ.go _ _ _ zcz (.inr rfl) rfl)):G:=h
theorem ynh(n:Nat)(h:n<65536):AFn (cx G) 182 [.val (.int .u64 n)] (vi (bitsLen n)):=by
 refine zg1 Tryz.func182 rfl Tryz.ntmps182 rfl rfl rfl (λQ hQ=>?_) rfl;have d1:decide ((4294967296:Int)<=(n:Int))=false:=by simp;omega
 have d2:decide ((65536:Int)<=(n:Int))=false:=by simp;omega
 by_cases h3:256<=n
 .have d3:decide ((256:Int)<=(n:Int))=true:=by simp;omega
  have hq:n / 256<256:=oc
  have hb:=ynp hq;have hb2:=yk4 hq;have e:vi ((bitsLen n:Nat):Int)=vi (0+8+((UInt8.ofNat (bitsLen (n / 256))).toNat:Int)):=by rw [show((bitsLen n:Nat):Int)=0+8+((UInt8.ofNat (bitsLen (n / 256))).toNat:Int) by rw [yn9 h3];omega]
  rw [e] at hQ;exact esd0
 .have d3:decide ((256:Int)<=(n:Int))=false:=by simp;omega
  have hq:n<256:=oc
  have hb:=ynp hq;have hb2:=yk4 hq;have e:vi ((bitsLen n:Nat):Int)=vi (0+((UInt8.ofNat (bitsLen n)).toNat:Int)):=by rw [show((bitsLen n:Nat):Int)=0+((UInt8.ofNat (bitsLen n)).toNat:Int) by omega]
  rw [e] at hQ;exact esd0
theorem csd0{P G:Prop}(n:P)(h:Wr P->G:=by(intro n;first|((with_reducible apply kC);first|exact gB ⟨_,ynh _ h,.mk rfl n.p⟩|exact gK n.p|exact gS n.p)|exact⟨_,ynh _ h,n.p⟩|exact sk n.p|exact ap n.p)):G:=h ⟨n⟩
theorem yop(n:Nat)(h:n<65536):AFn (cx G) 148 [.val (.int .u64 n)] (vi (bitsLen n)):=by refine zg1 Tryz.func148 rfl Tryz.ntmps148 rfl rfl rfl (λQ hQ=>?_) rfl;(repeat' (first|refine sy ?_|(refine aZ ?_;intros)|refine csd0 ?_|fail));exact hQ.go _ _ _ zcz (.inr rfl) rfl
def pw2(k:Nat):Nat:=2 ^ k
theorem ynb{n:Nat}(h:0<n):0<pw2 (bitsLen n)/\pw2 (bitsLen n)<=2*n/\n<pw2 (bitsLen n):=⟨Nat.two_pow_pos _,Go.Sort.two_pow_bitsLen_le h,Go.Sort.lt_two_pow_bitsLen n⟩
attribute [local irreducible] pw2
theorem yme{n:Nat}(h:n<65536):bitsLen n<=16:=by rw [Go.Sort.bitsLen_le_iff];omega
theorem csd1{P G:Prop}(n:P)(h:Wr P->G:=by(intro n;first|((with_reducible apply kC);first|exact gB ⟨_,yop _ h,.mk rfl n.p⟩|exact gK n.p|exact gS n.p)|exact⟨_,yop _ h,n.p⟩|exact sk n.p|exact ap n.p)):G:=h ⟨n⟩
theorem ynd(n:Nat)(h:n<65536)(h0:0<n):AFn (cx G) 193 [vi n] (.val (.int .u64 (pw2 (bitsLen n)))):=by
 refine zg1 Tryz.func193 rfl Tryz.ntmps193 rfl rfl rfl (λQ hQ=>?_) rfl;have hp:2 ^ bitsLen n=pw2 (bitsLen n):=by unfold pw2;rfl
 have h16:=yme h;have h2:=ynb h0;have e:pw2 (bitsLen n)=1*pw2 (bitsLen n) % 18446744073709551616:=oc
 rw [e] at hQ;(repeat' (first|refine g1 ?_ om ⟨z3j oe rfl rfl rfl (yli oc),zsj rfl rfl rfl rfl⟩|refine g1 ?_ oG ⟨ynt (m:=1) (n:=bitsLen n) (p:=pw2 (bitsLen n)) oe rfl rfl rfl rfl oc hp,z11 rfl rfl rfl rfl rfl⟩|refine sy ?_|(refine aZ ?_;intros)|refine csd1 ?_|fail));exact hQ.go _ _ _ zcz (.inr rfl) rfl
theorem yoa{a b:Nat}(ha:a<18446744073709551616)(hb:b<18446744073709551616):a ^^^ b<18446744073709551616:=Nat.xor_lt_two_pow (n:=64) ha hb
theorem yoz(X:Nat)(hX:X<18446744073709551616):zu1 (cx G) 194 [.ptr 7 0] [(7,.cells 230 [.val (.int .u64 X)])] (.val (.int .u64 (xorNextN X))) [(7,.cells 230 [.val (.int .u64 (xorNextN X))])] []:=by
 refine zeu [(7,0)] Tryz.func194 rfl Tryz.ntmps194 rfl rfl rfl λQ hQ=>?_;have lA:X ^^^ (X*8192 % 18446744073709551616)<18446744073709551616:=yoa hX oc;have lB:(X ^^^ (X*8192 % 18446744073709551616)) ^^^ ((X ^^^ (X*8192 % 18446744073709551616)) / 128)<18446744073709551616:=yoa lA oc
 have hv:xorNextN X=((X ^^^ (X*8192 % 18446744073709551616)) ^^^ ((X ^^^ (X*8192 % 18446744073709551616)) / 128)) ^^^ (((X ^^^ (X*8192 % 18446744073709551616)) ^^^ ((X ^^^ (X*8192 % 18446744073709551616)) / 128))*131072 % 18446744073709551616):=rfl;rw [hv] at hQ
 (repeat' (first|refine g1 ?_ oG ⟨ynt (n:=13) (p:=8192) oe rfl rfl rfl rfl oe rfl,z11 rfl rfl rfl rfl rfl⟩|refine g1 ?_ oG ⟨yns (n:=7) (p:=128) oe rfl rfl rfl rfl oe rfl,z11 rfl rfl rfl rfl rfl⟩|refine g1 ?_ oG ⟨ynt (n:=17) (p:=131072) oe rfl rfl rfl rfl oe rfl,z11 rfl rfl rfl rfl rfl⟩|refine g1 ?_ oG ⟨yo3 oe rfl rfl rfl rfl oM oM,z11 rfl rfl rfl rfl rfl⟩|refine sy ?_|(refine aZ ?_;intros)|refine w0 ?_|fail))
 exact hQ.g1 (.inr rfl) rfl ⟨rfl,trivial⟩ rfl
def brO(n X:Nat):Nat:=xorNextN X&&& (pw2 (bitsLen n)-1)
def brP(n X:Nat):Nat:=if n<=brO n X then brO n X-n else brO n X
theorem yoi{n:Nat}(h:0<n)(X:Nat):brO n X<2*n:=by have h1:=ynb h;have:brO n X<=pw2 (bitsLen n)-1:=Nat.and_le_right;omega
theorem yoh{n:Nat}(h:0<n)(X:Nat):brP n X<n:=by have:=yoi h X;unfold brP;split<;>omega
def brS(a n:Nat)(d:Array Int):Nat->Nat×Array Int
 | 0=>(n,d)
 | k+1=>(xorNextN (brS a n d k).1,swp (brS a n d k).2 (a+n / 4*2-1+k) (a+brP n (brS a n d k).1))
def brk(d:Array Int)(a b:Nat):Array Int:=(brS a (b-a) d 3).2
theorem yms{d:Array Int}{a b:Nat}(h:8<=b-a)(hb:b<=d.size):∀k,k<=3->Go.Sort.PermIn a b d (brS a (b-a) d k).2
 | 0,_=>Go.Sort.permIn_refl _ _ _
 | k+1,hk=>by have h1:=yms h hb k oc;have h2:=yoh (n:=b-a) oc (brS a (b-a) d k).1;exact Go.Sort.permIn_trans _ _ _ _ _ h1 (Go.Sort.swp_permIn _ _ _ _ _ oc oc oc oc (by rw [h1.1];exact hb))
theorem ymr(a n:Nat)(d:Array Int):∀k,(brS a n d k).2.size=d.size
 | 0=>rfl
 | k+1=>by rw [brS,ykf,ymr]
theorem yog(a n:Nat)(d:Array Int)(h:n<18446744073709551616):∀k,(brS a n d k).1<18446744073709551616
 | 0=>h
 | k+1=>Go.Sort.xorNextN_lt _ (yog a n d h k)
attribute [local irreducible] xorNextN
theorem csd2{P G:Prop}(n:P)(h:Wr P->G:=by(intro n;first|((with_reducible apply kC);first|exact gB ⟨_,hN,.mk rfl n.p⟩|exact gK n.p|exact gS n.p)|exact⟨_,hN,n.p⟩|exact sk n.p|exact ap n.p)):G:=h ⟨n⟩
theorem esd1{G:Prop}(h:G:=by((repeat' (first|refine g1 ?_ oG ⟨yex oe rfl rfl (yli oc),z11 rfl rfl rfl rfl rfl⟩|refine g1 ?_ oG ⟨ymu (m:=xorNextN X) (n:=pw2 (bitsLen n)-1) oe rfl rfl rfl oc oc oc hT,z11 rfl rfl rfl rfl rfl⟩|((with_reducible apply kC);first|refine gM (p:=[]) (ys:=[_]) (q:=[]) m1 ?_)|refine sy ?_|(refine aZ ?_;intros)|refine csd2 ?_|fail));refine⟨hlt,?_⟩;rw [hS1,hS2];exact si)):G:=h
theorem yor(d:Array Int)(a b:Nat)(hab:12<b-a)(hb:b<=d.size)(hs:d.size<65536):zu1 (cx G) 174 [.own 1000,vi a,vi b] [(1000,.buf 1 3 (ia d))] (.tup []) [(1000,.buf 1 3 (ia (brk d a b)))] []:=by
 refine zeu [(1000,0)] Tryz.func174 rfl Tryz.ntmps174 rfl rfl rfl λQ hQ=>?_;unfold brk at hQ;have e1:(b:Int)-(a:Int)=((b-a:Nat):Int):=oc
 generalize hn:b-a=n at e1 hab hQ;have hd8:decide ((8:Int)<=(b:Int)-(a:Int))=true:=by simp;omega
 have hN:=ynd (G:=G) n oc oc;rw [<-e1] at hN;have hp:=ynb (n:=n) oc;have e2:(a:Int)+(n:Int) / 4*2-1=((a+n / 4*2-1+0:Nat):Int):=oc
 (repeat' (first|refine g1 ?_ om ⟨z3j oe rfl rfl rfl (yli oc),zsj rfl rfl rfl rfl⟩|refine sy ?_|(refine aZ ?_;intros)|refine csd2 ?_|fail))
 refine zam 3 (λk=>[(2*0,.av (.own 1000)),(2*1,.av (vi a)),(2*6,.av (vi n)),(2*7,.av (.ptr 7 0)),(2*8,.av (.val (.int .u64 (pw2 (bitsLen n):Nat)))),(2*9,.av (vi ((a+n / 4*2-1+k:Nat):Int))),(2*7+1,.cells 230 [.val (.int .u64 ((brS a n d k).1:Nat))]),(2*1000+1,.buf 1 3 (ia (brS a n d k).2))]) ?_ ?_
 .exact si
 .intro k hk;by_cases hlt:k<3
  .have hd:decide (((a+n / 4*2-1+k:Nat):Int)<=(a:Int)+(n:Int) / 4*2+1)=true:=by simp;omega
   have hX:=yog a n d oc k;have hZ:=ymr a n d k;have hS1:(brS a n d (k+1)).1=xorNextN (brS a n d k).1:=rfl;have hS2:(brS a n d (k+1)).2=swp (brS a n d k).2 (a+n / 4*2-1+k) (a+brP n (brS a n d k).1):=rfl;generalize (brS a n d k).1=X at hX hS1 hS2 |-;generalize (brS a n d k).2=D at hZ hS2 |-;have m1:=yoz (G:=G) X hX;have hnx:=Go.Sort.xorNextN_lt X hX;have ho:=yoi (n:=n) oc X
   have hpp:=yoh (n:=n) oc X;have hO:brO n X=xorNextN X&&& (pw2 (bitsLen n)-1):=rfl;have hi9:vi (((a+n / 4*2-1+k:Nat):Int)+1)=vi ((a+n / 4*2-1+(k+1):Nat):Int):=by congr 2
   generalize hI:a+n / 4*2-1+k=I at hS2 hd hi9 |-;rw [hO] at ho;unfold brP at hS2 hpp;rw [hO] at hS2 hpp;generalize hT:xorNextN X&&& (pw2 (bitsLen n)-1)=T at ho hS2 hpp;by_cases hge:n<=T
   .have hdg:decide ((n:Int)<=(T:Int))=true:=by simp;omega
    rw [if_pos hge] at hS2 hpp;have q1:(a:Int)+((T:Int)-(n:Int))=((a+(T-n):Nat):Int):=oc
    generalize a+(T-n)=J at q1 hS2;have v1:=yke (show I<D.size by omega);have v2:=yke (show J<D.size by omega);have l1:I<(ia D).length:=by rw [ykd];omega
    have l2:J<(ia D).length:=by rw [ykd];omega
    have v3:=yko (d:=D) (i:=I) (show J<D.size by omega);have l3:=ykp (d:=D) (i:=I) (r:=spl [vi D[I]!] 0 [vi D[J]!]) (show J<D.size by omega);have hsw:=yk2 D I J;exact esd1
   .have hdg:decide ((n:Int)<=(T:Int))=false:=by simp;omega
    rw [if_neg hge] at hS2 hpp;have v1:=yke (show I<D.size by omega);have v2:=yke (show a+T<D.size by omega);have l1:I<(ia D).length:=by rw [ykd];omega
    have l2:a+T<(ia D).length:=by rw [ykd];omega
    have v3:=yko (d:=D) (i:=I) (show a+T<D.size by omega);have l3:=ykp (d:=D) (i:=I) (r:=spl [vi D[I]!] 0 [vi D[a+T]!]) (show a+T<D.size by omega);have hsw:=yk2 D I (a+T);exact esd1
  .have he:k=3:=oc
   subst he;have hd:decide (((a+n / 4*2-1+3:Nat):Int)<=(a:Int)+(n:Int) / 4*2+1)=false:=by simp;omega
   (repeat' (first|refine sy ?_|(refine aZ ?_;intros)|refine csd2 ?_|fail));exact hQ.g1 (.inl rfl) rfl ⟨rfl,trivial⟩ rfl
end Go.Ab.J
