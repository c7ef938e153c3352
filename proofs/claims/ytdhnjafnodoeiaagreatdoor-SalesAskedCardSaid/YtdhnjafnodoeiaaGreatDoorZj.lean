/- What every law of the package's statements about sales rests on: the walk of the chapter's example, beside any other goroutines. Conditions: none. -/
import Derived.Test.YtdhnjafnodoeiaaGreatDoorZi
namespace Go.Ab.J
open Go Go.RowKit Go.Kp
open Go.Kp (Wr)
theorem aS{C:Cx}{r:Option Nat}{N:Nat}{s:AS}{c e:Code}{Q:Exit→AS→Prop}(h:∀P:AS→Prop,(∀s,AW C r N e Q s→P s)→AW C r N c (zii P Q) s):AW C r N (.seq c e) Q s:=ybl h
theorem aB{C:Cx}{r:Option Nat}{N:Nat}{s:AS}{c:Code}{i:Nat}{Q:Exit→AS→Prop}(h:∀Q':Exit→AS→Prop,(∀s,Q .normal s→Q' .normal s)→(∀s,Q .normal s→Q' (.exit i) s)→(∀s,Q .ret s→Q' .ret s)→(∀j s,Nat.beq j i=false→Q (.exit j) s→Q' (.exit j) s)→AW C r N c Q' s):AW C r N (.block i c) Q s:=z2u h
theorem sx{P G:Prop}(n:P)(h:Wr P→G:=by
 (intro n
  first
  | ((with_reducible apply ydl);first|((with_reducible apply kC);first|exact gC n.p|exact gF n.p)|((fail_if_success with_reducible apply kC);first|exact gF n.p|exact g1 n.p|exact g2 n.p|exact g3 n.p|exact gE n.p|exact gN n.p|exact gS n.p))
  | ((with_reducible apply k_aw);first|exact wR n.p|exact wD n.p|exact wT n.p|exact wF n.p|exact wN n.p|exact wC n.p|exact zuq n.p|exact zur n.p|exact z2q n.p)
  | (with_reducible exact zlw n.p)|(with_reducible exact zvd n.p)|(with_reducible exact zq4 n.p))):G:=h ⟨n⟩
theorem sk{P G:Prop}(n:P)(h:Wr P→G:=by
 (intro n b9 h9
  first
  | (have h8:b9=true:=h9.symm.trans (by assumption);subst h8;rw [h9];exact n.p)
  | (have h8:b9=false:=h9.symm.trans (by assumption);subst h8;rw [h9];exact n.p))):G:=h ⟨n⟩
theorem s2{P1 P2 G:Prop}(n1:P1)(n2:P2)(h:Wr P1→Wr P2→G:=by
 (intro n1 n2 b9 h9
  cases b9
  ·first|(have h7:=of_decide_eq_false h9;rw [h9];clear h9;revert h7;exact n1.p)|(rw [h9];revert h9;exact n1.p)
  ·first|(have h7:=of_decide_eq_true h9;rw [h9];clear h9;revert h7;exact n2.p)|(rw [h9];revert h9;exact n2.p))):G:=h ⟨n1⟩ ⟨n2⟩
theorem ap{P G:Prop}(n:P)(h:Wr P→G:=by(intro n;with_reducible apply_assumption -exfalso -symm;all_goals first|exact(rfl:Nat.beq _ _=false)|exact n.p)):G:=h ⟨n⟩
theorem w0{P G:Prop}(n:P)(h:Wr P→G:=by(intro n;first|((with_reducible apply kC);first|exact gK n.p|exact gS n.p)|exact⟨_,by assumption,n.p⟩|exact sk n.p|exact ap n.p)):G:=h ⟨n⟩
theorem fe{P G:Prop}(n:P)(h:Wr P→G:=by(intro n;first|exact ydu rfl n.p|exact ya1 rfl n.p)):G:=h ⟨n⟩
theorem si{G:zbf}{N:Nat}{s s':AS}(h:yb7 s s':=by repeat' (first|exact zg3|(refine ze5 (by first|exact rfl|(simp only [*];exact rfl)) ?_)))(hs:zhp (zeb s') s'=true:=by exact rfl):Sub G N s s':=znv h hs
theorem sr{ρ:Nat→Nat}{s l:AS}(h:z65 ρ s l:=by repeat' (first|exact z4c|(refine zzg (by first|exact rfl|(simp only [*];exact rfl)) ?_))):z65 ρ s l:=h
end Go.Ab.J
