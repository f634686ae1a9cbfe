-- Put together by wip/merge.py (a program of this session's) out of this claim's texts; Lean checks it.
import Derived.Test.YtlmlamkbedfmhaaK17
import Derived.Test.YtlmlamkbedfmhaaK13
section
namespace Go.Proofs.YtlmlamkbedfmhaaW.PrintWords
open Go.RowKit
end Go.Proofs.YtlmlamkbedfmhaaW.PrintWords
namespace Go.Proofs.YtlmlamkbedfmhaaW.PrintLast
section
variable {ops : Array Oper} {a : Act} {o og : Oper} {g : Nat} {t : Tmp} {u : Bool}
end
end Go.Proofs.YtlmlamkbedfmhaaW.PrintLast
end
