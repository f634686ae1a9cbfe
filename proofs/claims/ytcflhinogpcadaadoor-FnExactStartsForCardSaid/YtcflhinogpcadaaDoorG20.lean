-- Put together by wip/merge.py (a program of this session's) out of this claim's texts; Lean checks it.
import Derived.Test.YtcflhinogpcadaaDoorG19
import Derived.Test.YtcflhinogpcadaaDoorG15
section
namespace Go.Proofs.YtcflhinogpcadaaDoorW.PrintWords
open Go.RowKit
end Go.Proofs.YtcflhinogpcadaaDoorW.PrintWords
namespace Go.Proofs.YtcflhinogpcadaaDoorW.PrintLast
section
variable {ops : Array Oper} {a : Act} {o og : Oper} {g : Nat} {t : Tmp} {u : Bool}
end
end Go.Proofs.YtcflhinogpcadaaDoorW.PrintLast
end
