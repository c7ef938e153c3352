/- Pieces of a law about sales. Conditions: none. -/
import Derived.Test.YtbnajhgbhbgjdaaGreatDoorHLa
import Derived.LaidHandle
import Derived.LaidMore
import Derived.OpenShut
namespace Go.Kp
open Go
theorem yrb(out:List Int)(x:Int):(yo0 out x).length<=out.length+1:=by
 have:=(ymo out x out.length).1;unfold yo0;split
 .omega
 .simp;omega
theorem yqf(l:List Int):∀n,(ymw l n).length<=n
 | 0=>kac _
 | n+1=>by have:=yqf l n;have:=yrb (ymw l n) (l.getD n 0);unfold ymw;omega
end Go.Kp
namespace Go.Ab.J
open Go Go.Proofs Go.Kp Go.ChangeShapes Go.WideShapes Go.ChangeAt Go.RowKit
section
variable{H:Type}{enc:TypeId×Value->H}{w:World}{base b0:Nat}{sp:Nat->Bool}{held:Bool}{v:Value}{d:DataW H}{p:List MemPlace}
set_option maxRecDepth 100000
end
section
variable{H:Type}{enc:TypeId×Value->H}{P:Program}{w:World}{base:Nat}{spare:Nat->Bool}{held:Bool}
theorem yky{t:TypeId}{ts:List TypeId}{vs:List Value}{ds:List (DataW H)}{ps:List MemPlace}(h:DataW.TrodAll enc P w base spare held (t::ts) vs ds ps) :
  ∃v vs' d ds' p q,vs=v::vs'/\ds=d::ds'/\ps=p++q/\DataW.Trod enc P w base spare held t v d p/\DataW.TrodAll enc P w base spare held ts vs' ds' q:=by
 cases vs<;>cases ds<;>simp [DataW.TrodAll] at h
 obtain⟨p,hp,q,hq,e⟩:=h
 exact⟨_,_,_,_,p,q,rfl,rfl,e,hp,hq⟩
theorem yl3{t0 t1 t2 t3 t4:TypeId}{args:Array Value}{ds:List (DataW H)}{ps:List MemPlace}(h:DataW.TrodAll enc P w base spare held [t0,t1,t2,t3,t4] args.toList ds ps) :
  ∃v0 v1 v2 v3 v4 d0 d1 d2 d3 d4 p0 p1 p2 p3 p4,args=#[v0,v1,v2,v3,v4]/\ds=[d0,d1,d2,d3,d4]/\ps=p0++p1++p2++p3++p4/\DataW.Trod enc P w base spare held t0 v0 d0 p0/\DataW.Trod enc P w base spare held t1 v1 d1 p1/\DataW.Trod enc P w base spare held t2 v2 d2 p2/\DataW.Trod enc P w base spare held t3 v3 d3 p3/\DataW.Trod enc P w base spare held t4 v4 d4 p4:=by
 obtain⟨v0,vs,d0,ds',p0,q,hargs,rfl,rfl,h0,hr⟩:=yky h
 obtain⟨v1,vs1,d1,ds1,p1,q1,rfl,rfl,rfl,h1,hr⟩:=yky hr
 have hr':DataW.TrodAll enc P w base spare held [t2,t3,t4] (vs1.toArray).toList ds1 q1:=oa hr
 obtain⟨v2,v3,v4,d2,d3,d4,p2,p3,p4,e,rfl,rfl,h2,h3,h4⟩:=trodAll_three hr'
 have e':vs1=[v2,v3,v4]:=by simpa using congrArg Array.toList e
 subst e'
 exact⟨v0,v1,v2,v3,v4,d0,d1,d2,d3,d4,p0,p1,p2,p3,p4,by cases args;simp_all,rfl,od,h0,h1,h2,h3,h4⟩
theorem yks{t:TypeId}{ts:List TypeId}{v:Value}{vs:List Value}{d:DataW H}{ds:List (DataW H)}{p q:List MemPlace}(h:DataW.Trod enc P w base spare held t v d p)(hr:DataW.TrodAll enc P w base spare held ts vs ds q):DataW.TrodAll enc P w base spare held (t::ts) (v::vs) (d::ds) (p++q):=⟨p,q,h,hr,rfl⟩
end
end Go.Ab.J
