/- What every law of the package's statements about sales rests on: the walk of the chapter's example, beside any other goroutines. Conditions: none. -/
import Derived.Test.YtdhnjafnodoeiaaGreatDoorZj
namespace Go.Ab.J
open Go Go.Proofs Go.Kp
section
abbrev vi(n:Int):AV:=.val (.int .i64 n)
abbrev vb(b:Bool):AV:=.val (.bool b)
def _root_.Go.Kp.Slip.row(s:Slip):List AV:=[vi s.kind,vi s.dept,vi s.clerk,vi s.for_,vi s.lo,vi s.hi,vi s.signed]
def _root_.Go.Kp.SumR.row(m:SumR):List AV:=[vi m.kind,vi m.a,vi m.lo,vi m.hi,vb m.firm]
def bk(most:Int)(ss:List Slip)(ms:List SumR):AV:=.agg [vi most,.sl 7 (ss.map Slip.row),.sl 5 (ms.map SumR.row)]
variable{G:zbf}
attribute [local irreducible] AOp AW ADr AFn ze1 AFt AOpJ
end
end Go.Ab.J
